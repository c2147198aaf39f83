/- Lemmas. No conditions. -/
import Derived.Test.YtnpfcnfhfkflhaaGreatDoorC03
import Derived.Test.YtnpfcnfhfkflhaaGreatDoorC00
import Derived.Test.YtnpfcnfhfkflhaaGreatDoorC04
set_option linter.all false
set_option maxRecDepth 100000
open List
namespace Go.TM
variable{T:Type}{U U':Qa T}
def Bk.woF(b:Bk)(l:List Int):Int:=if b.flaw Qu=0 then J1 b.nc none l else b.flaw Qu
def Zq.zero:Zq U BH.zero ⟨[],[]⟩:=⟨⟨rfl,λ i x h=>by simp at h⟩,⟨rfl,λ i x h=>by simp at h⟩,by show 0<_;decide,by show 0<_;decide,S1,S1⟩
def Zoh{b:Nat}{c:Array Value}{e:TypeId}{vs:List Value}{M₀:List Qx}{Q:Qa T->Prop}(n:WH U)(j:U.M=.obj b (.cells c e (0,0))::M₀)(g:c.size=vs.length)(l:∀v∈vs,v.single=true)
  (h:∀d:Qa T,(∀x o,U.I x=some o->d.I x=some o)->d.tok=U.tok->d.M=M₀->Zi d b vs.toArray->Q d):ZA ⟨b,0,none⟩ vs 0 (λ f=>∃d,Qw f d/\Q d) U:=by
 refine VP [] vs 0 c U j l O1 ?_;rw[Y7 g];refine⟨_,We (b:=b) (M':=M₀) (Perm.refl _),h _ (λ x o i=>?_) rfl rfl Zi.new⟩;show JI U.I b _ x=_;unfold JI;rw[if_neg]
 .exact i
 .rintro rfl;have m:=n (.obj x (.cells c e (0,0))) (by rw[j];exact mem_cons_self ..);rw[show U.I x=none from m]at i;cases i
end Go.TM
namespace Go.Proofs
open Go.TM
section
variable{T:Type}{S:TM.Sys Tryz.prog T}{U:Qa T}
attribute [local irreducible] Qb Zl Wt
def Qvv(a h:Option Addr)(len cap d:Nat)(l:List ByteArray)(w:Q5 U a len 1 l λ s vs=>vs=[.string s])(p:Q5 U h len 1 l λ s vs=>vs=[.string s])(t:len<2^60) :
  Qb S 59 #[.slice a len cap,.slice h len d] (λ v U'=>v=.bool true/\U'=U) U:=by
 refine Qb.pure' (Qb.of (args:=[_,_]) Q0h Qf S1 ?_)
 repeat refine⟨rfl,?_⟩
 conv=>whnf
 apply Qe<;>intro e
 .exact absurd e S1
 refine⟨Nat,λ i=>[(0,.slice a len cap),(1,.slice h len d),(5,.int .i64 i)],λ i U'=>U.le U'/\i<=len,λ i=>len-i,0,T1,⟨.refl _,O1⟩,?_⟩;rintro i f D⟨b,F⟩;have o:Zu ((i:Int)+1):=I1
 repeat refine⟨rfl,?_⟩
 conv=>whnf
 apply Qe<;>intro e
 .have hlt:i<len:=by simpa using e
  obtain⟨u,x,vs,A,n,-,rfl,-,z⟩:=w.at hlt;obtain⟨j,C,B,r,g,-,rfl,-,q⟩:=p.at hlt;obtain rfl:x=C:=Option.some.inj (A.symm.trans r);refine⟨u,i,⟨n,rfl,hlt⟩,_,(z.lg b.lg) 0 _ rfl,j,i,⟨g,rfl,hlt⟩,_,(q.lg b.lg) 0 _ rfl,?_⟩
  conv=>whnf
  intro E m _
  repeat refine⟨rfl,?_⟩
  conv=>whnf
  apply Qe<;>intro e
  .exact absurd e S1
  refine⟨o,?_⟩
  conv=>whnf
  exact⟨rfl,i+1,T1,⟨b.trans m,O1⟩,L1⟩
 repeat refine⟨rfl,?_⟩
 conv=>whnf
 exact b.lg
def Qaq(h:BH)(b:Bk)(J:Zq U.frz h b)(hk:WA U)(a:Option Addr)(len cap:Nat)(l:List Int)(Y:Z5 U.frz a len l)(p:len<2^60) :
  Qb S 41 #[h.v,.slice a len cap] (λ v U'=>(∃d:BH,v=.tuple #[d.v,.int .i64 (b.woF l)]/\Zq U'.frz d (if b.woF l=0 then b.wo (WR l).testBit else⟨[],[]⟩)/\d.rl<=d.rc)/\U.le U') U:=by
 refine Qb.grown (R:=λ v U'=>∃d:BH,v=.tuple #[d.v,.int .i64 (b.woF l)]/\Zq U' d (if b.woF l=0 then b.wo (WR l).testBit else⟨[],[]⟩)/\d.rl<=d.rc) (λ v w L Y⟨d,e,h1,h2⟩=>⟨d,e,h1.lg Y,h2⟩) (Qb.of (args:=[_,_]) Qek Qf S1 ?_);have W:=J.cs.1;have D:=J.cl;have aa:b.nc=(h.cl:Int):=by unfold Bk.nc;rw[W]
 repeat refine⟨rfl,?_⟩
 conv=>whnf
 intro B w f N;have N:Zi w B #[.slice h.ra h.rl h.rc,.slice h.ca h.cl h.cc]:=N
 conv=>whnf
 intro M r;refine⟨_,.refl _,?_⟩;have j:=Z4 (U:=w) M (.cells #[.slice none 0 0,.slice none 0 0] 25);have q:=N.lg j;have F:=(Y.lg f.lg.frz2).lg Qp;refine⟨_,⟨rfl,q.rd⟩,?_⟩;refine⟨VA.any,(O4 h b (((J.lg f.lg.frz2).lg Qp).lg j) ((hk.lg f.lg).lg j)).go λ _=>?_⟩
 repeat refine⟨rfl,?_⟩
 conv=>whnf
 apply Qe<;>intro C
 .have E:b.flaw Qu≠0:=by simpa using C
  have O:b.woF l=b.flaw Qu:=by unfold Bk.woF;rw[if_neg E]
  rw[O,if_neg E];refine⟨rfl,Zt (vs:=[.slice none 0 0,.slice none 0 0]) r rfl (by simp[Value.single]) λ L g i=>?_⟩;refine⟨_,⟨rfl,i.rd⟩,?_⟩
  conv=>whnf
  exact⟨⟨BH.zero,rfl,.zero,Nat.le_refl _⟩,(f.trans g).lg⟩
 have E:b.flaw Qu=0:=by simpa using C
 have G:=Bk.ok_of E;have ac:=G.nc;have O:b.woF l=J1 (h.cl:Int) none l:=by unfold Bk.woF;rw[if_pos E,aa]
 rw[O];refine⟨_,q.sees3 (o:=1) rfl,YV.any,(L6 a len cap l (F.lg j) p h.cl D).go λ _=>?_⟩
 repeat refine⟨rfl,?_⟩
 conv=>whnf
 apply Qe<;>intro C
 .have K:J1 (h.cl:Int) none l≠0:=by simpa using C
  rw[if_neg K];refine⟨rfl,Zt (vs:=[.slice none 0 0,.slice none 0 0]) r rfl (by simp[Value.single]) λ L g i=>?_⟩;refine⟨_,⟨rfl,i.rd⟩,?_⟩
  conv=>whnf
  exact⟨⟨BH.zero,rfl,.zero,Nat.le_refl _⟩,(f.trans g).lg⟩
 have K:J1 (h.cl:Int) none l=0:=by simpa using C
 have X:=Yk K;have z:∀n∈l,0<=n/\n<60:=λ n hn=>by have:=X n hn;omega
 rw[K,if_pos rfl];have ho:WR l<2^60:=Hz (toNat_lt z);refine⟨_,⟨rfl,q.rd⟩,?_⟩;refine⟨.int .i64 (WR l:Nat),λ U' Z _=>?_,?_⟩
 .refine⟨XT.any,(Ja a len cap l ((F.lg j).lg Z.lg) p z).mono ?_⟩;rintro _ ab⟨rfl,Q⟩-;obtain rfl:=Q.symm;exact⟨rfl,_,.refl _,.refl _⟩
 have m:Hlr w M 25 #[.slice none 0 0,.slice none 0 0] (w.put M (.cells #[.slice none 0 0,.slice none 0 0] 25)):=.made (.refl _) r
 conv=>whnf
 intro L g _;have m:=m.le g;refine⟨Ow.any,(LS h b ((J.lg f.lg.frz2).lg m.frz2) G (WR l) ho).mono ?_⟩;rintro _ U3⟨⟨d,rfl,V,t⟩,T⟩H;have m:=m.le T;refine⟨rfl,Zoh (vs:=[.slice d.ra d.rl d.rc,.slice d.ca d.cl d.cc]) H m.own rfl (by simp[Value.single]) λ U4 A I P i=>?_⟩;refine⟨_,⟨rfl,i.rd⟩,?_⟩
 conv=>whnf
 exact⟨⟨d,rfl,V.lg ⟨A,⟨[],rfl⟩,I⟩,t⟩,⟨λ x u hx=>A x u (m.imm x u (f.imm x u hx)),⟨[],by rw[P,f.own];rfl⟩,I.trans (m.tok.trans f.tok)⟩⟩
end
end Go.Proofs
namespace Go.TM
variable{T:Type}{U U':Qa T}
def Qdg(bits i:Nat):Bool:=(IntKind.wrap .u8 ((BitVec.ofInt (IntKind.bits .u8) (((bits:Nat):Int).fdiv (2^(min ((i:Nat):Int).toNat (IntKind.bits .u8))))&&&BitVec.ofInt (IntKind.bits .u8) 1).toNat:Nat))==1
def Bk.partTo(bits i:Nat):List Int:=((range i).filter (Qdg bits)).map λ(k:Nat)=>(k:Int)
def Bk.partTo_succ(bits i:Nat):Bk.partTo bits (i+1)=Bk.partTo bits i++(if Qdg bits i then[(i:Int)]else[]):=by
 unfold Bk.partTo;rw[range_succ,filter_append,map_append];congr 1;cases h:Qdg bits i
 .rw[filter_cons,h];rfl
 .rw[filter_cons,h];rfl
def Bk.partTo_sub(b:Bk)(bits:Nat):(Bk.partTo bits b.cs.length).Sublist b.every:=filter_sublist.map _
def Bk.sub_rises{b:Bk}{y:List Int}(h:y.Sublist b.every):J1 b.nc none y=0:=by
 refine YE (b.every_asc.sublist h) (λ x e=>?_) S1;obtain⟨k,d,rfl⟩:=mem_map.1 (h.subset e);rw[mem_range]at d;unfold Bk.nc;omega
def Bk.sub_len{b:Bk}{y:List Int}(h:y.Sublist b.every):y.length<=b.cs.length:=by have:=h.length_le;rwa [b.every_len]at this
end Go.TM
namespace Go.Proofs
open Go.TM
section
variable{T:Type}{S:TM.Sys Tryz.prog T}{U:Qa T}
attribute [local irreducible] Qb Zl Wt
def Q4w{f:FuncId}{args:Array Value}{e:Nat}{l:List Int}(h:Qb S f args (λ v U'=>Acc e 1 v (l.map λ n=>.int .i64 n) U'.M U.M/\(∀x m,U.I x=some m->U'.I x=some m)/\U'.tok=U.tok) U) :
  Qb S f args (λ v U'=>QG U'.frz v l/\U.le U') U:=by
 refine h.sep λ v U' p⟨i,o,q⟩=>?_;obtain⟨d,r,t,a,len,cap,rfl,j,b,g,_⟩:=i.freeze p o q;have u:=i.room;simp at j;exact⟨d,r,⟨a,cap,by rw[j],Vf b g,O1⟩,t⟩
def Qvo(h:BH)(b:Bk)(I:Zq U.frz h b)(L:b.cs.length<=5)(bits:Nat) :
  Qb S 47 #[h.v,.int .u8 (bits:Int)] (λ v U'=>QG U'.frz v (Bk.partTo bits b.cs.length)/\U.le U') U:=by
 refine Q4w (e:=3) (Qb.of (args:=[_,_]) Qzk Qf S1 ?_);have J:=I.cs.1
 repeat refine⟨rfl,?_⟩
 conv=>whnf
 intro B C p z;have z:Zi C B #[.slice h.ra h.rl h.rc,.slice h.ca h.cl h.cc]:=z;refine⟨Nat×Value,λ y=>[(1,.int .u8 bits),(2,.pointer (some ⟨B,0,none⟩)),(5,y.2),(6,.int .i64 y.1)],λ y U'=>C.frz.lg U'/\y.1<=h.cl/\Acc 3 1 y.2 ((Bk.partTo bits y.1).map λ n=>.int .i64 n) U'.M U.M,λ y=>h.cl-y.1,(0,.slice none 0 0),T1,⟨Qp,O1,by rw[p.own];exact .nil⟩,?_⟩;rintro⟨i,v⟩f T⟨l,K,d⟩;simp only at K d;obtain⟨sa,sl,G,rfl,N,-⟩:=d.src;have w:Zu ((i:Int)+1):=I1
 have g:=Bk.partTo_succ bits i;have E:(Bk.partTo bits i).length<=i:=by unfold Bk.partTo;rw[length_map];exact Nat.le_trans (length_filter_le _ _) S1
 have q:=z.imI l.imm;refine⟨_,q.sees3 (o:=1) rfl,?_⟩
 repeat refine⟨rfl,?_⟩
 conv=>whnf
 apply Qe<;>intro u
 .have hlt:i<h.cl:=by simpa using u
  refine⟨Int.natCast_nonneg i,?_⟩
  repeat refine⟨rfl,?_⟩
  conv=>whnf
  apply Qe<;>intro u
  .have hp:Qdg bits i=true:=u;rw[hp,if_pos rfl]at g
   conv=>whnf
   intro H j;refine Zk j λ D r j=>?_;have j:Zi D H #[.int .i64 i]:=j;have m:=l.trans r.lg
   conv=>whnf
   refine Ws (v:=.slice sa sl G) (cs:=(Bk.partTo bits i).map λ n=>.int .i64 n) (new:=[.int .i64 (i:Int)]) (M₀:=U.M) Hf rfl rfl (by rw[r.own];exact d) (.inr ⟨_,rfl,j.rd⟩) rfl (by simp[Value.single]) S3 λ V M' t _=>?_;obtain⟨P,R,Q,rfl,-,-⟩:=Acc.src (U:={ D with M:=M' }) t;refine⟨w,?_⟩
   conv=>whnf
   exact⟨rfl,(i+1,.slice P R Q),T1,⟨⟨m.imm,⟨_,(append_nil _).symm⟩,m.tok⟩,by show i+1<=h.cl;omega,by show Acc 3 1 _ ((Bk.partTo bits (i+1)).map _) _ _;rw[g,map_append];exact t⟩,L1⟩
  .have hp:Qdg bits i=false:=u;rw[hp,if_neg S1,append_nil]at g;refine⟨w,?_⟩
   conv=>whnf
   exact⟨rfl,(i+1,.slice sa sl G),T1,⟨l,by show i+1<=h.cl;omega,by show Acc 3 1 _ ((Bk.partTo bits (i+1)).map _) _ _;rw[g];exact d⟩,L1⟩
 have A:i=b.cs.length:=by simp at u;omega
 rw[A]at d
 repeat refine⟨rfl,?_⟩
 conv=>whnf
 exact⟨d,λ x F O=>l.imm x F (p.imm x F O),l.tok.trans p.tok⟩
end
def Qga:List (List (Nat×St)):=[[(0,.xo 31 1 2),(0,.xl 32 31),(0,.m 33 5),(0,.xi 34 4 32 33),(0,.xd 35 4 34),(0,.xo 36 1 3),(0,.xl 37 36),(0,.m 38 5),(0,.xi 39 4 37 38),(0,.xd 40 4 39),(2,.d 6 (.alloc 49 #[(.string ⟨#[]⟩),(.int .i64 0),(.slice none 0 0),(.slice none 0 0)])),(2,.d 7 (.alloc 49 #[(.string ⟨#[]⟩),(.int .i64 0),(.slice none 0 0),(.slice none 0 0)])),(2,⟨.st 4 (.t 6) (.t 35),none,none,none⟩)],
 [(0,.xo 31 1 2),(0,.xl 32 31),(0,.m 33 5),(0,.xi 34 4 32 33),(0,.xd 35 4 34),(0,.xo 36 1 3),(0,.xl 37 36),(0,.m 38 5),(0,.xi 39 4 37 38),(0,.xd 40 4 39),(2,.d 7 (.alloc 49 #[(.string ⟨#[]⟩),(.int .i64 0),(.slice none 0 0),(.slice none 0 0)])),(2,.d 6 (.alloc 49 #[(.string ⟨#[]⟩),(.int .i64 0),(.slice none 0 0),(.slice none 0 0)])),(2,⟨.st 4 (.t 6) (.t 35),none,none,none⟩)]]
def Q0k:List St:=[⟨.st 4 (.t 7) (.t 40),none,none,none⟩]
variable{T:Type}{S:TM.Sys Tryz.prog T}{U:Qa T}
attribute [local irreducible] Qb Zl Wt
set_option maxHeartbeats 1000000 in
def Qcf(h t:BH)(b:Bk)(G:Zq U.frz h b)(r:Zq U.frz t b):Qb S 43 #[h.v,t.v] (λ v U'=>v=.bool true/\U'=U) U:=by
 refine Qb.pure' (Qb.of (args:=[_,_]) Qpj Qf S1 ?_)
 let w:Array Value:=#[.string ⟨#[]⟩,.int .i64 0,.slice none 0 0,.slice none 0 0]
 have bu:=G.cs.1;have b0:=G.rs.1;have bj:b.cs.length=t.cl:=r.cs.1;have bp:b.rs.length=t.rl:=r.rs.1;have e1:t.rl=h.rl:=O1
 have e2:t.cl=h.cl:=O1
 repeat refine⟨rfl,?_⟩
 conv=>whnf
 intro b2 U1 a4 g;have g:Zi U1 b2 #[.slice h.ra h.rl h.rc,.slice h.ca h.cl h.cc]:=g
 conv=>whnf
 intro b3 U2 af n;have n:Zi U2 b3 #[.slice t.ra t.rl t.rc,.slice t.ca t.cl t.cc]:=n;have g:=g.le af;have Y:=a4.trans af;have G:=G.lg Y.lg.frz2;have r:=r.lg Y.lg.frz2;rw[e1,e2]at n
 repeat refine⟨rfl,?_⟩
 refine⟨_,g.sees3 (o:=0) rfl,_,n.sees3 (o:=0) rfl,Q0h.any,(Qvv h.ra t.ra h.rl h.rc t.rc b.rs (G.rs.lg Qp λ _ _ h=>h) ((show Q5 U2.frz t.ra h.rl 1 b.rs _ from e1▸r.rs).lg Qp λ _ _ h=>h) G.rl).go λ _=>?_⟩;refine⟨_,g.sees3 (o:=1) rfl,_,n.sees3 (o:=1) rfl,?_⟩
 repeat refine⟨rfl,?_⟩
 conv=>whnf
 apply Qe<;>intro C
 .exact absurd C S1
 refine⟨Nat,λ i=>[(2,.pointer (some ⟨b2,0,none⟩)),(3,.pointer (some ⟨b3,0,none⟩)),(5,.int .i64 i)],λ i U'=>U2.le U'/\i<=h.cl,λ i=>h.cl-i,0,T1,⟨.refl _,O1⟩,?_⟩;rintro i f Q⟨z,hi⟩;have a7:=G.cl;have bc:Zu ((i:Int)+1):=I1
 have g:=g.le z;have n:=n.le z;have G:=G.lg z.lg.frz2;have r:=r.lg z.lg.frz2;have a2:=Y.trans z;refine⟨_,g.sees3 (o:=1) rfl,?_⟩
 repeat refine⟨rfl,?_⟩
 conv=>whnf
 apply Qe<;>intro C
 .have hlt:i<h.cl:=by simpa using C
  have O:i<h.cl:=hlt;obtain⟨ad,c,ga,K,gc,R,V,T,hx,ai,b1,aq,hg,bw,ha,a6,bo⟩:=G.case hlt;obtain⟨ab,c',W,L,X,H,J,I,bg,N,bq,P,an,bl,a5,bi,bd⟩:=r.case (show i<t.cl by omega);obtain rfl:c=c':=Option.some.inj (hx.symm.trans bg);have bv:=hg.1;have bk:=an.1
  conv=>whnf
  intro bt D
  refine SQ (mu:=[]) (ops:=Pl Tryz.f43 6) (id:=6) D [10,11,12] [[0,1,2,3,4,5,6,7,8,9,10,11,12],[0,1,2,3,4,5,6,7,8,9,11,10,12]] [13] Qga Q0k Qf K1 K1 K1 K1 K1
   (λ f' ae U'=>ae=[]/\∃b7 b8,XF f' [(2,.pointer (some ⟨b2,0,none⟩)),(3,.pointer (some ⟨b3,0,none⟩)),(5,.int .i64 i),(6,.pointer (some ⟨b7,0,none⟩)),(7,.pointer (some ⟨b8,0,none⟩)),(40,.agg #[.string c.nm,.int .i64 c.ag,.slice W L X,.slice H J I])]/\Tw3 Q 49 w [.string c.nm,.int .i64 c.ag,.slice ga K gc,.slice R V T] b7 b8 U') ?_ ?_
  .intro l hl;simp only[Qga,mem_cons,not_mem_nil,or_false]at hl;rcases hl with rfl|rfl
   .refine⟨_,g.sees3F (o:=1) rfl,ad,i,⟨ai,rfl,hlt⟩,_,⟨rfl,aq⟩,_,n.sees3F (o:=1) rfl,ab,i,⟨N,rfl,O⟩,_,⟨rfl,P⟩,λ v U'=>∃p,v=.pointer (some ⟨p,0,none⟩)/\Tw1 Q 49 w p U',λ v u x2⟨p,e,d⟩j=>⟨p,e,d.le j⟩,λ v U'⟨p,e,d⟩=>d.2.frz1,λ U' B=>?_,λ v F=>?_⟩
    .conv=>whnf
     intro p Z;exact⟨_,.refl _,_,.refl _,p,rfl,.made B Z⟩
    obtain⟨_,b7,rfl,-⟩:=F;refine⟨λ v U'=>∃p,v=.pointer (some ⟨p,0,none⟩)/\Tw2 Q 49 w b7 p U',λ v u x2⟨p,e,d⟩j=>⟨p,e,d.le j⟩,λ v U'⟨p,e,d⟩=>d.frz,λ U' B=>?_,λ v F=>?_⟩
    .obtain⟨p',e,d⟩:=B;obtain rfl:b7=p':=by simpa using e
     conv=>whnf
     intro p Z;obtain⟨u,k1,k2⟩:=d.made1 Z;exact⟨u,k1,_,.refl _,p,rfl,k2⟩
    obtain⟨_,b8,rfl,-⟩:=F;refine⟨λ v U'=>Tw3 Q 49 w [.string c.nm,.int .i64 c.ag,.slice ga K gc,.slice R V T] b7 b8 U',λ v u x2 d j=>d.le j,λ v U' d=>d.frz,λ U' B=>?_,λ v F=>?_⟩
    .obtain⟨p',e,d⟩:=B;obtain rfl:b8=p':=by simpa using e
     conv=>whnf
     exact⟨rfl,ZA.mono (λ _⟨u,k1,k2⟩=>⟨u,k1,u,.refl _,k2⟩) _ _ _ (d.write (vs:=[.string c.nm,.int .i64 c.ag,.slice ga K gc,.slice R V T]) rfl (by simp[Value.single]))⟩
    clear F
    conv=>whnf
    intro U' d;exact⟨rfl,b7,b8,T1,d⟩
   .refine⟨_,g.sees3F (o:=1) rfl,ad,i,⟨ai,rfl,hlt⟩,_,⟨rfl,aq⟩,_,n.sees3F (o:=1) rfl,ab,i,⟨N,rfl,O⟩,_,⟨rfl,P⟩,λ v U'=>∃p,v=.pointer (some ⟨p,0,none⟩)/\Tw1 Q 49 w p U',λ v u x2⟨p,e,d⟩j=>⟨p,e,d.le j⟩,λ v U'⟨p,e,d⟩=>d.2.frz1,λ U' B=>?_,λ v F=>?_⟩
    .conv=>whnf
     intro p Z;exact⟨_,.refl _,_,.refl _,p,rfl,.made B Z⟩
    obtain⟨_,b8,rfl,-⟩:=F;refine⟨λ v U'=>∃p,v=.pointer (some ⟨p,0,none⟩)/\Tw2 Q 49 w p b8 U',λ v u x2⟨p,e,d⟩j=>⟨p,e,d.le j⟩,λ v U'⟨p,e,d⟩=>d.frz,λ U' B=>?_,λ v F=>?_⟩
    .obtain⟨p',e,d⟩:=B;obtain rfl:b8=p':=by simpa using e
     conv=>whnf
     intro p Z;obtain⟨u,k1,k2⟩:=d.made2 Z;exact⟨u,k1,_,.refl _,p,rfl,k2⟩
    obtain⟨_,b7,rfl,-⟩:=F;refine⟨λ v U'=>Tw3 Q 49 w [.string c.nm,.int .i64 c.ag,.slice ga K gc,.slice R V T] b7 b8 U',λ v u x2 d j=>d.le j,λ v U' d=>d.frz,λ U' B=>?_,λ v F=>?_⟩
    .obtain⟨p',e,d⟩:=B;obtain rfl:b7=p':=by simpa using e
     conv=>whnf
     exact⟨rfl,ZA.mono (λ _⟨u,k1,k2⟩=>⟨u,k1,u,.refl _,k2⟩) _ _ _ (d.write (vs:=[.string c.nm,.int .i64 c.ag,.slice ga K gc,.slice R V T]) rfl (by simp[Value.single]))⟩
    clear F
    conv=>whnf
    intro U' d;exact⟨rfl,b7,b8,T1,d⟩
  rintro f' ae U5⟨rfl,b7,b8,am,d⟩;rw[<- am.ovr];clear am;refine⟨rfl,d.write (ws:=[.string c.nm,.int .i64 c.ag,.slice W L X,.slice H J I]) rfl (by simp[Value.single]) λ U6 ah m q=>?_⟩;have m:Zi U6 b7 #[.string c.nm,.int .i64 c.ag,.slice ga K gc,.slice R V T]:=m;have q:Zi U6 b8 #[.string c.nm,.int .i64 c.ag,.slice W L X,.slice H J I]:=q;have a3:=z.trans ah;have hz:=ah.lg.frz2
  conv=>whnf
  intro a' M;refine⟨by rw[M.size,D.size],_,M.get,?_⟩;rw[M.ds];clear M D d;refine⟨_,m.sees3 (o:=0) rfl,_,q.sees3 (o:=0) rfl,?_⟩
  repeat refine⟨rfl,?_⟩
  conv=>whnf
  apply Zr<;>intro C
  rotate_left
  .exact absurd C S1
  refine⟨_,m.sees3 (o:=1) rfl,_,q.sees3 (o:=1) rfl,?_⟩
  repeat refine⟨rfl,?_⟩
  conv=>whnf
  apply Zr<;>intro C
  rotate_left
  .exact absurd C S1
  refine⟨_,m.sees3 (o:=3) rfl,_,q.sees3 (o:=3) rfl,Gx.any,(PP R H V T J I _ _ ((ha.lg hz).lg Qp) ((a5.lg hz).lg Qp) a6).go λ _=>?_⟩;rw[decide_eq_true rfl];refine⟨_,m.sees3 (o:=2) rfl,_,q.sees3 (o:=2) rfl,?_⟩
  repeat refine⟨rfl,?_⟩
  conv=>whnf
  apply Qe<;>intro C
  .exfalso;simp at C;omega
  refine⟨Nat,λ k=>[(2,.pointer (some ⟨b2,0,none⟩)),(3,.pointer (some ⟨b3,0,none⟩)),(5,.int .i64 i),(6,.pointer (some ⟨b7,0,none⟩)),(7,.pointer (some ⟨b8,0,none⟩)),(8,.int .i64 k)],λ k U'=>U6.le U'/\k<=K,λ k=>K-k,0,T1,⟨.refl _,O1⟩,?_⟩;rintro k f U7⟨A,bz⟩;have ap:Zu ((k:Int)+1):=I1
  have m:=m.le A;have q:=q.le A;have a8:=(hg.lg (hz.trans A.lg.frz2)).lg Qp;have a9:=(an.lg (hz.trans A.lg.frz2)).lg Qp;refine⟨_,m.sees3 (o:=2) rfl,?_⟩
  repeat refine⟨rfl,?_⟩
  conv=>whnf
  apply Qe<;>intro C
  .have hltk:k<K:=by simpa using C
   have E:k<L:=O1
   obtain⟨au,g2,aw,a0,ay,bh,aj,br,be,ba,ao,bx⟩:=a8.at hltk;obtain⟨av,g3,ax,a1,az,ar,ak,bs,bf,bb,bm,bn⟩:=a9.at E;obtain rfl:g2=g3:=Option.some.inj (bh.symm.trans ar);refine⟨_,m.sees3 (o:=2) rfl,au,k,⟨aj,rfl,hltk⟩,_,be,_,q.sees3 (o:=2) rfl,av,k,⟨ak,rfl,E⟩,_,bf,?_⟩
   conv=>whnf
   intro U8 h8 _;refine⟨Gx.any,(PP aw ax a0 ay a1 az g2 g2 (ba.lg h8.lg) (bb.lg h8.lg) ao).go λ _=>?_⟩;rw[decide_eq_true rfl];refine⟨ap,?_⟩
   conv=>whnf
   exact⟨rfl,k+1,T1,⟨A.trans h8,O1⟩,L1⟩
  refine⟨bc,?_⟩
  conv=>whnf
  exact⟨rfl,i+1,T1,⟨(a3).trans A,O1⟩,L1⟩
 repeat refine⟨rfl,?_⟩
 conv=>whnf
 exact a2.lg
end Go.Proofs

