/- Lemmas. No conditions. -/
import Derived.Test.YtnpfcnfhfkflhaaGreatDoorC03
import Derived.Test.YtnpfcnfhfkflhaaGreatDoorC00
import Derived.Test.YtnpfcnfhfkflhaaGreatDoorC04
set_option linter.all false
set_option maxRecDepth 100000
open List
namespace Go.TM
def Bk.askF_zero{b:Bk}{r:Nat}(d:b.flaw Qu=0)(e:r<b.rs.length):b.askF (r:Int)=0:=by
 unfold Bk.askF;rw[if_pos d,if_pos];unfold Bk.nr;simp[btw];omega
end Go.TM
namespace Go.TM
variable{T:Type}{U U':Qa T}
def Bk.woF(b:Bk)(l:List Int):Int:=if b.flaw Qu=0 then J1 b.nc none l else b.flaw Qu
def Zq.zero:Zq U BH.zero ⟨[],[]⟩:=⟨⟨rfl,λ i x h=>by simp at h⟩,⟨rfl,λ i x h=>by simp at h⟩,by show 0<_;decide,by show 0<_;decide,S1,S1⟩
def Znq{b:Nat}{c:Array Value}{e:TypeId}{vs:List Value}{M₀:List Qx}{Q:Qa T->Prop}(r:WH U)(j:U.M=.obj b (.cells c e (0,0))::M₀)(g:c.size=vs.length)(m:∀v∈vs,v.single=true)
  (h:∀d:Qa T,(∀x o,U.I x=some o->d.I x=some o)->d.tok=U.tok->d.M=M₀->Zi d b vs.toArray->Q d):ZA ⟨b,0,none⟩ vs 0 (λ f=>∃d,Qw f d/\Q d) U:=by
 refine VP [] vs 0 c U j m O1 ?_;rw[Y7 g];refine⟨_,We (b:=b) (M':=M₀) (Perm.refl _),h _ (λ x o i=>?_) rfl rfl Zi.new⟩;show JI U.I b _ x=_;unfold JI;rw[if_neg]
 .exact i
 .rintro rfl;have q:=r (.obj x (.cells c e (0,0))) (by rw[j];exact mem_cons_self ..);rw[show U.I x=none from q]at i;cases i
end Go.TM
namespace Go.Proofs
open Go.TM
section
variable{T:Type}{S:TM.Sys Tryz.prog T}{U:Qa T}
attribute [local irreducible] Qb Zl Wt
def Qqa(a h:Option Addr)(len cap d:Nat)(l:List ByteArray)(z:Q5 U a len 1 l λ s vs=>vs=[.string s])(r:Q5 U h len 1 l λ s vs=>vs=[.string s])(w:len<2^60) :
  Qb S 59 #[.slice a len cap,.slice h len d] (λ v U'=>v=.bool true/\U'=U) U:=by
 refine Qb.pure' (Qb.of (args:=[_,_]) Q0m Qf S1 ?_)
 repeat refine⟨rfl,?_⟩
 conv=>whnf
 apply Qe<;>intro e
 .exact absurd e S1
 refine⟨Nat,λ i=>[(0,.slice a len cap),(1,.slice h len d),(5,.int .i64 i)],λ i U'=>U.le U'/\i<=len,λ i=>len-i,0,T1,⟨.refl _,O1⟩,?_⟩;rintro i f E⟨b,G⟩;have q:Zu ((i:Int)+1):=I1
 repeat refine⟨rfl,?_⟩
 conv=>whnf
 apply Qe<;>intro e
 .have hlt:i<len:=by simpa using e
  obtain⟨y,x,vs,B,o,-,rfl,-,A⟩:=z.at hlt;obtain⟨j,D,C,u,g,-,rfl,-,t⟩:=r.at hlt;obtain rfl:x=D:=Option.some.inj (B.symm.trans u);refine⟨y,i,⟨o,rfl,hlt⟩,_,(A.lg b.lg) 0 _ rfl,j,i,⟨g,rfl,hlt⟩,_,(t.lg b.lg) 0 _ rfl,?_⟩
  conv=>whnf
  intro F m _
  repeat refine⟨rfl,?_⟩
  conv=>whnf
  apply Qe<;>intro e
  .exact absurd e S1
  refine⟨q,?_⟩
  conv=>whnf
  exact⟨rfl,i+1,T1,⟨b.trans m,O1⟩,L1⟩
 repeat refine⟨rfl,?_⟩
 conv=>whnf
 exact b.lg
def Qf7(h:BH)(b:Bk)(I:Zq U.frz h b)(hk:WA U)(a:Option Addr)(len cap:Nat)(l:List Int)(X:Z5 U.frz a len l)(r:len<2^60) :
  Qb S 41 #[h.v,.slice a len cap] (λ v U'=>(∃d:BH,v=.tuple #[d.v,.int .i64 (b.woF l)]/\Zq U'.frz d (if b.woF l=0 then b.wo (WR l).testBit else⟨[],[]⟩)/\d.rl<=d.rc)/\U.le U') U:=by
 refine Qb.grown (R:=λ v U'=>∃d:BH,v=.tuple #[d.v,.int .i64 (b.woF l)]/\Zq U' d (if b.woF l=0 then b.wo (WR l).testBit else⟨[],[]⟩)/\d.rl<=d.rc) (λ v y K X⟨d,e,h1,h2⟩=>⟨d,e,h1.lg X,h2⟩) (Qb.of (args:=[_,_]) Qzk Qf S1 ?_);have V:=I.cs.1;have D:=I.cl;have Z:b.nc=(h.cl:Int):=by unfold Bk.nc;rw[V]
 repeat refine⟨rfl,?_⟩
 conv=>whnf
 intro B y f M;have M:Zi y B #[.slice h.ra h.rl h.rc,.slice h.ca h.cl h.cc]:=M
 conv=>whnf
 intro L t;refine⟨_,.refl _,?_⟩;have m:=Z4 (U:=y) L (.cells #[.slice none 0 0,.slice none 0 0] 25);have s:=M.lg m;have F:=(X.lg f.lg.frz2).lg Qp;refine⟨_,⟨rfl,s.rd⟩,?_⟩;refine⟨VA.any,(O4 h b (((I.lg f.lg.frz2).lg Qp).lg m) ((hk.lg f.lg).lg m)).go λ _=>?_⟩
 repeat refine⟨rfl,?_⟩
 conv=>whnf
 apply Qe<;>intro C
 .have E:b.flaw Qu≠0:=by simpa using C
  have N:b.woF l=b.flaw Qu:=by unfold Bk.woF;rw[if_neg E]
  rw[N,if_neg E];refine⟨rfl,Zt (vs:=[.slice none 0 0,.slice none 0 0]) t rfl (by simp[Value.single]) λ K g j=>?_⟩;refine⟨_,⟨rfl,j.rd⟩,?_⟩
  conv=>whnf
  exact⟨⟨BH.zero,rfl,.zero,Nat.le_refl _⟩,(f.trans g).lg⟩
 have E:b.flaw Qu=0:=by simpa using C
 have G:=Bk.ok_of E;have ac:=G.nc;have N:b.woF l=J1 (h.cl:Int) none l:=by unfold Bk.woF;rw[if_pos E,Z]
 rw[N];refine⟨_,s.sees3 (o:=1) rfl,YV.any,(L6 a len cap l (F.lg m) r h.cl D).go λ _=>?_⟩
 repeat refine⟨rfl,?_⟩
 conv=>whnf
 apply Qe<;>intro C
 .have J:J1 (h.cl:Int) none l≠0:=by simpa using C
  rw[if_neg J];refine⟨rfl,Zt (vs:=[.slice none 0 0,.slice none 0 0]) t rfl (by simp[Value.single]) λ K g j=>?_⟩;refine⟨_,⟨rfl,j.rd⟩,?_⟩
  conv=>whnf
  exact⟨⟨BH.zero,rfl,.zero,Nat.le_refl _⟩,(f.trans g).lg⟩
 have J:J1 (h.cl:Int) none l=0:=by simpa using C
 have W:=Yk J;have z:∀n∈l,0<=n/\n<60:=λ n hn=>by have:=W n hn;omega
 rw[J,if_pos rfl];have ho:WR l<2^60:=Hz (toNat_lt z);refine⟨_,⟨rfl,s.rd⟩,?_⟩;refine⟨.int .i64 (WR l:Nat),λ U' Y _=>?_,?_⟩
 .refine⟨XT.any,(Ja a len cap l ((F.lg m).lg Y.lg) r z).mono ?_⟩;rintro _ ab⟨rfl,P⟩-;obtain rfl:=P.symm;exact⟨rfl,_,.refl _,.refl _⟩
 have q:Hlr y L 25 #[.slice none 0 0,.slice none 0 0] (y.put L (.cells #[.slice none 0 0,.slice none 0 0] 25)):=.made (.refl _) t
 conv=>whnf
 intro K g _;have q:=q.le g;refine⟨Ow.any,(LS h b ((I.lg f.lg.frz2).lg q.frz2) G (WR l) ho).mono ?_⟩;rintro _ U3⟨⟨d,rfl,T,w⟩,Q⟩aa;have q:=q.le Q;refine⟨rfl,Znq (vs:=[.slice d.ra d.rl d.rc,.slice d.ca d.cl d.cc]) aa q.own rfl (by simp[Value.single]) λ U4 A H O j=>?_⟩;refine⟨_,⟨rfl,j.rd⟩,?_⟩
 conv=>whnf
 exact⟨⟨d,rfl,T.lg ⟨A,⟨[],rfl⟩,H⟩,w⟩,⟨λ x u hx=>A x u (q.imm x u (f.imm x u hx)),⟨[],by rw[O,f.own];rfl⟩,H.trans (q.tok.trans f.tok)⟩⟩
def Qp3(h:BH)(b:Bk)(u:Zq U.frz h b)(D:WA U)(C:b.flaw Qu=0)(r:Nat)(w:r<h.rl):Qb S 49 #[h.v,.int .i64 r] (λ v U'=>v=.tuple #[.int .i64 (b.fatR r),.bool true]/\U'=U) U:=by
 refine Qb.pure' (Qb.of (args:=[_,_]) Q0k Qf S1 ?_);have q:=u.rs.1
 repeat refine⟨rfl,?_⟩
 conv=>whnf
 intro B y d f;have f:Zi y B #[.slice h.ra h.rl h.rc,.slice h.ca h.cl h.cc]:=f;refine⟨_,⟨rfl,f.rd⟩,?_⟩;refine⟨Fj.any,(yC h b (u.lg d.lg.frz2) (D.lg d.lg)).mono ?_⟩;rintro _ G⟨⟨_,_,rfl,⟨ra,rc,rfl,g⟩,⟨ca,cc,rfl,H⟩⟩,e⟩-;rw[C]at g ⊢;rw[if_pos rfl]at g;rw[if_pos rfl];have E:b.fatesR.length=h.rl:=by simp[Bk.fatesR,q]
 rw[E]at g ⊢;obtain⟨j,F,t,m,z,s⟩:=g.at w;obtain rfl:b.fatR r=F:=Option.some.inj ((show b.fatesR[r]?=some (b.fatR r) by simp[Bk.fatesR,show r<b.rs.length by omega]).symm.trans t)
 repeat refine⟨rfl,?_⟩
 refine⟨_,(f.lg e.lg).sees3 (o:=0) rfl,?_⟩
 repeat refine⟨rfl,?_⟩
 conv=>whnf
 apply Qe<;>intro A
 .exact absurd A S1
 refine⟨j,r,⟨m,rfl,w⟩,_,s.lg Qp,?_⟩
 repeat refine⟨rfl,?_⟩
 conv=>whnf
 exact(d.trans e).lg
def Qbj(h:BH)(b:Bk)(I:Zq U.frz h b)(K:WA U)(J:b.flaw Qu=0)(a:Option Addr)(len cap:Nat)(l:List Int)(O:Z5 U.frz a len l)(y:len<2^60)(E:J1 b.nc none l=0)(r:Nat)(R:r<h.rl) :
  Qb S 46 #[h.v,.slice a len cap,.int .i64 r] (λ v U'=>v=.tuple #[.int .i64 ((b.wo (WR l).testBit).fatR r),.bool true]/\U'=U) U:=by
 refine Qb.pure' (Qb.of (args:=[_,_,_]) Qcf Qf S1 ?_);have P:=I.rs.1;have H:b.woF l=0:=by unfold Bk.woF;rw[if_pos J,E]
 have w:=Bk.wo_flaw J (WR l).testBit
 repeat refine⟨rfl,?_⟩
 conv=>whnf
 intro B M e z;have z:Zi M B #[.slice h.ra h.rl h.rc,.slice h.ca h.cl h.cc]:=z;have t:=I.lg e.lg.frz2;refine⟨_,⟨rfl,z.rd⟩,?_⟩;refine⟨Qzk.any,(Qf7 h b t (K.lg e.lg) a len cap l (O.lg e.lg.frz2) y).mono ?_⟩;rintro _ Q⟨⟨d,rfl,m,q⟩,C⟩-;rw[H,if_pos rfl]at m;rw[H];have L:b.rs.length=d.rl:=m.rs.1
 conv=>whnf
 intro N D;refine⟨_,.refl _,rfl,Zt (vs:=[.slice d.ra d.rl d.rc,.slice d.ca d.cl d.cc]) D rfl (by simp[Value.single]) λ F s f=>?_⟩;have j:=C.trans s;have A:=z.lg j.lg;have u:=t.lg j.lg.frz2;have g:=m.lg s.lg.frz2;have f:Zi F N #[.slice d.ra d.rl d.rc,.slice d.ca d.cl d.cc]:=f;have G:d.rl=h.rl:=O1
 repeat refine⟨rfl,?_⟩
 refine⟨_,f.sees3 (o:=0) rfl,_,A.sees3 (o:=0) rfl,?_⟩
 conv=>whnf
 rw[G];refine⟨Q0m.any,(Qqa d.ra h.ra h.rl d.rc h.rc b.rs ((show Q5 F.frz d.ra h.rl 1 b.rs _ from G▸g.rs).lg Qp λ _ _ h=>h) (u.rs.lg Qp λ _ _ h=>h) u.rl).go λ _=>?_⟩;refine⟨_,⟨rfl,f.rd⟩,?_⟩;refine⟨D6.any,(xZ d _ g q).go λ _=>?_⟩;rw[w]
 repeat refine⟨rfl,?_⟩
 refine⟨_,⟨rfl,f.rd⟩,?_⟩;refine⟨Q0k.any,(Qp3 d _ g (K.lg (e.trans j).lg) w r O1).go λ _=>?_⟩
 repeat refine⟨rfl,?_⟩
 conv=>whnf
 exact(e.trans j).lg
end
end Go.Proofs
namespace Go.TM
variable{T:Type}{U U':Qa T}
def Q4u(bits i:Nat):Bool:=(IntKind.wrap .u8 ((BitVec.ofInt (IntKind.bits .u8) (((bits:Nat):Int).fdiv (2^(min ((i:Nat):Int).toNat (IntKind.bits .u8))))&&&BitVec.ofInt (IntKind.bits .u8) 1).toNat:Nat))==1
def Bk.partTo(bits i:Nat):List Int:=((range i).filter (Q4u bits)).map λ(k:Nat)=>(k:Int)
def Bk.partTo_succ(bits i:Nat):Bk.partTo bits (i+1)=Bk.partTo bits i++(if Q4u bits i then[(i:Int)]else[]):=by
 unfold Bk.partTo;rw[range_succ,filter_append,map_append];congr 1;cases h:Q4u bits i
 .rw[filter_cons,h];rfl
 .rw[filter_cons,h];rfl
def Bk.partTo_sub(b:Bk)(bits:Nat):(Bk.partTo bits b.cs.length).Sublist b.every:=filter_sublist.map _
def Bk.sub_rises{b:Bk}{y:List Int}(h:y.Sublist b.every):J1 b.nc none y=0:=by
 refine YE (b.every_asc.sublist h) (λ x e=>?_) S1;obtain⟨k,d,rfl⟩:=mem_map.1 (h.subset e);rw[mem_range]at d;unfold Bk.nc;omega
def Bk.sub_len{b:Bk}{y:List Int}(h:y.Sublist b.every):y.length<=b.cs.length:=by have:=h.length_le;rwa [b.every_len]at this
def Qdh(l b:List Int):Bool:=decide (l.length<b.length)|| (decide (l.length=b.length)&&Qae l b)
def Bk.ag_count(b:Bk)(r:Nat):(b.every.filter λ n=>(b.cas n.toNat).ag==(r:Int)).length=(range b.cs.length).countP λ j=>(b.cas j).ag==(r:Int):=by
 unfold Bk.every;rw[filter_map,length_map,countP_eq_length_filter];rfl
def Qvv(l:List Int):∀w∈l.map λ n=>Value.int .i64 n,w.single=true:=λ w b=>by obtain⟨n,-,rfl⟩:=mem_map.1 b;rfl
def Q4x{l:List Int}{i:Nat}(h:i<l.length):(l.take i++l.drop (i+1)).length=l.length-1:=S3
def Q4z(l:List Int)(i:Nat):(l.take i++l.drop (i+1)).Sublist l:=by rw[<- eraseIdx_eq_take_drop_succ];exact eraseIdx_sublist ..
def Zbz{a:Option Addr}{len:Nat}{l:List Int}(h:Z5 U a len l)(i:Nat):QS U (if i=0 then a else a) ((l.take i).map λ n=>.int .i64 n):=by
 rw[ite_self,map_take];rcases h.src' with⟨d,e⟩|⟨f,d,e⟩
 .exact .inl ⟨d,by rw[e];simp⟩
 .refine .inr ⟨f,d,λ k v b=>e k v ?_⟩;rw[getElem?_take]at b;split at b
  .exact b
  .cases b
def Q41{a:Option Addr}{len:Nat}{l:List Int}(h:Z5 U a len l){i:Nat}(m:i<len):QS U (a.map (·.add (i*1))) ((l.drop i).map λ n=>.int .i64 n):=by
 obtain⟨b,-,-,rfl,e,-⟩:=h.at m;rcases h.src' with⟨d,f⟩|⟨q,d,f⟩
 .cases d
 .cases d;refine .inr ⟨_,rfl,λ k v g=>?_⟩;rw[map_drop,getElem?_drop]at g;have:=f _ v g;obtain⟨j,o,r⟩:=b;cases e;rw[Qo]at this;show U.sees (((Addr.mk j o none).add (i*1)).add k) v;rw[Qo,Qo,Nat.mul_one,Nat.add_assoc];exact this
end Go.TM
namespace Go.Proofs
open Go.TM
section
variable{T:Type}{S:TM.Sys Tryz.prog T}{U:Qa T}
attribute [local irreducible] Qb Zl Wt
def Q4v{f:FuncId}{args:Array Value}{e:Nat}{l:List Int}(h:Qb S f args (λ v U'=>Acc e 1 v (l.map λ n=>.int .i64 n) U'.M U.M/\(∀x o,U.I x=some o->U'.I x=some o)/\U'.tok=U.tok) U) :
  Qb S f args (λ v U'=>QG U'.frz v l/\U.le U') U:=by
 refine h.sep λ v U' r⟨j,q,s⟩=>?_;obtain⟨d,t,u,a,len,cap,rfl,m,b,g,_⟩:=j.freeze r q s;have w:=j.room;simp at m;exact⟨d,t,⟨a,cap,by rw[m],Vf b g,O1⟩,u⟩
def Qp5(h:BH)(b:Bk)(J:Zq U.frz h b)(N:b.cs.length<=5)(bits:Nat) :
  Qb S 47 #[h.v,.int .u8 (bits:Int)] (λ v U'=>QG U'.frz v (Bk.partTo bits b.cs.length)/\U.le U') U:=by
 refine Q4v (e:=3) (Qb.of (args:=[_,_]) Q0h Qf S1 ?_);have K:=J.cs.1
 repeat refine⟨rfl,?_⟩
 conv=>whnf
 intro B D q z;have z:Zi D B #[.slice h.ra h.rl h.rc,.slice h.ca h.cl h.cc]:=z;refine⟨Nat×Value,λ y=>[(1,.int .u8 bits),(2,.pointer (some ⟨B,0,none⟩)),(5,y.2),(6,.int .i64 y.1)],λ y U'=>D.frz.lg U'/\y.1<=h.cl/\Acc 3 1 y.2 ((Bk.partTo bits y.1).map λ n=>.int .i64 n) U'.M U.M,λ y=>h.cl-y.1,(0,.slice none 0 0),T1,⟨Qp,O1,by rw[q.own];exact .nil⟩,?_⟩;rintro⟨i,v⟩f V⟨m,L,d⟩;simp only at L d;obtain⟨sa,sl,H,rfl,O,-⟩:=d.src;have u:Zu ((i:Int)+1):=I1
 have g:=Bk.partTo_succ bits i;have F:(Bk.partTo bits i).length<=i:=by unfold Bk.partTo;rw[length_map];exact Nat.le_trans (length_filter_le _ _) S1
 have A:=z.imI m.imm;refine⟨_,A.sees3 (o:=1) rfl,?_⟩
 repeat refine⟨rfl,?_⟩
 conv=>whnf
 apply Qe<;>intro t
 .have hlt:i<h.cl:=by simpa using t
  refine⟨Int.natCast_nonneg i,?_⟩
  repeat refine⟨rfl,?_⟩
  conv=>whnf
  apply Qe<;>intro t
  .have hp:Q4u bits i=true:=t;rw[hp,if_pos rfl]at g
   conv=>whnf
   intro I j;refine Zk j λ E r j=>?_;have j:Zi E I #[.int .i64 i]:=j;have w:=m.trans r.lg
   conv=>whnf
   refine Ws (v:=.slice sa sl H) (cs:=(Bk.partTo bits i).map λ n=>.int .i64 n) (new:=[.int .i64 (i:Int)]) (M₀:=U.M) Hf rfl rfl (by rw[r.own];exact d) (.inr ⟨_,rfl,j.rd⟩) rfl (by simp[Value.single]) S3 λ W M' s _=>?_;obtain⟨Q,T,R,rfl,-,-⟩:=Acc.src (U:={ E with M:=M' }) s;refine⟨u,?_⟩
   conv=>whnf
   exact⟨rfl,(i+1,.slice Q T R),T1,⟨⟨w.imm,⟨_,(append_nil _).symm⟩,w.tok⟩,by show i+1<=h.cl;omega,by show Acc 3 1 _ ((Bk.partTo bits (i+1)).map _) _ _;rw[g,map_append];exact s⟩,L1⟩
  .have hp:Q4u bits i=false:=t;rw[hp,if_neg S1,append_nil]at g;refine⟨u,?_⟩
   conv=>whnf
   exact⟨rfl,(i+1,.slice sa sl H),T1,⟨m,by show i+1<=h.cl;omega,by show Acc 3 1 _ ((Bk.partTo bits (i+1)).map _) _ _;rw[g];exact d⟩,L1⟩
 have C:i=b.cs.length:=by simp at t;omega
 rw[C]at d
 repeat refine⟨rfl,?_⟩
 conv=>whnf
 exact⟨d,λ x G P=>m.imm x G (q.imm x G P),m.tok.trans q.tok⟩
def Qga(a f:Option Addr)(cap d:Nat)(l b:List Int)(m:Z5 U a l.length l)(g:Z5 U f b.length b)(h:l.length<2^60)(j:b.length<2^60) :
  Qb S 48 #[.slice a l.length cap,.slice f b.length d] (λ v U'=>v=.bool (Qdh l b)/\U'=U) U:=by
 refine Qb.of (args:=[_,_]) Q0j Qf S1 ?_;unfold Qdh
 repeat refine⟨rfl,?_⟩
 conv=>whnf
 apply Zr<;>intro e
 .have hge:decide (l.length<b.length)=false:=by simp at e ⊢;omega
  rw[hge,Bool.false_or]
  repeat refine⟨rfl,?_⟩
  conv=>whnf
  apply Zr<;>intro e
  .have heq:decide (l.length=b.length)=true:=by simp at e ⊢;omega
   rw[heq,Bool.true_and];refine⟨Qvz.any,(Qpj a f _ cap _ d l b m g h j).go λ _=>?_⟩
   repeat refine⟨rfl,?_⟩
   conv=>whnf
   first|done|exact⟨rfl,rfl⟩
  .have heq:decide (l.length=b.length)=false:=by simp at e ⊢;omega
   rw[heq,Bool.false_and]
   repeat refine⟨rfl,?_⟩
   conv=>whnf
   first|done|exact⟨rfl,rfl⟩
 .have hlt:decide (l.length<b.length)=true:=by simp at e ⊢;omega
  rw[hlt,Bool.true_or]
  repeat refine⟨rfl,?_⟩
  conv=>whnf
  first|done|exact⟨rfl,rfl⟩
end
def Qdc:List (List (Nat×St)):=[[(0,.xd 104 2 3),(0,.m 106 8),(0,.m 107 15),(0,.d 108 (.sub3 1 (.t 106) none (some (.t 107)))),(0,.m 110 8),(0,.m 111 15),(0,.xa 112 111),(0,.d 113 (.sub3 1 (.t 110) (some (.t 112)) none)),(0,.m 115 7),(2,.d 105 (.bsl 3 0 #[] [])),(2,.xz 109 105 108 26),(2,.xz 114 109 113 26),(2,.d 116 (.call (.func 46) #[(.t 104),(.t 114),(.t 115)])),(0,.m 103 116),(0,.xe 117 103 0),(0,.xe 118 103 1),(0,.m 10 117)]]
def Qvy:List St:=[.m 11 118]
attribute [local irreducible] Qb Zl Wt
set_option maxHeartbeats 4000000 in
def Q4w{U:Qa Tk}(W:U.tok=⟨0,.out,none⟩)(hk:WA U)(h:BH)(b:Bk)(hb:Zq U.frz h b)(bl:DH b)(bm:h.rl<=h.rc)(bw:h.cl<=h.cc)(rt:Nat)(b7:rt<256)(bits:Nat)(bc:bits<256) :
  J (Zb Tryz.prog 209 6) (QA Tryz.prog λ v U'=>v=.bool true/\U.lg U') true (Rf (Frame.enter Tryz.prog 11 #[h.v,.int .u8 (rt:Int),.int .u8 (bits:Int)] .normal) []) U:=by
 refine Zpy (args:=[_,_,_]) (Q:=λ v U'=>v=.bool true/\U.lg U') Zk8 Qf K1 S1 (λ v U' q=>q.2.tok.trans W) ?_;have bx:=hb.cs.1;have b6:=hb.rs.1;have ao:∀U2:Qa Tk,U.lg U2->Qb (Zb Tryz.prog 209 6) 20 #[] (λ v U'=>v=.bool true/\U'=U2) U2:=λ U2 h=>Zm2 (h.tok.trans W) (hk.lg h)
 repeat refine⟨rfl,?_⟩
 conv=>whnf
 intro B U1 z hB;have hB:Zi U1 B #[.slice h.ra h.rl h.rc,.slice h.ca h.cl h.cc]:=hB;have a9:Zi U1.frz B #[.slice h.ra h.rl h.rc,.slice h.ca h.cl h.cc]:=hB;have ae:=hb.lg z.lg.frz2;have A:∀w:Qa Tk,U1.frz.lg w->Jn w ⟨B,0,none⟩ [.slice h.ra h.rl h.rc,.slice h.ca h.cl h.cc]:=λ w hw=>(a9.lg hw).rd;refine⟨_,⟨rfl,A _ Qp⟩,kh.any,(Zm1 h b ae bl bm).mono ?_⟩;rintro _ U'⟨⟨g,rfl,hg⟩,ba⟩-;obtain rfl:=ba.symm;have WD:Qb (Zb Tryz.prog 209 6) 20 #[] (λ v U'=>v=.bool true/\U'=U1) U1:=ao _ z.lg;cases g with
 |false=>
  refine⟨yL.any,WD.go λ _=>?_⟩
  repeat refine⟨rfl,?_⟩
  conv=>whnf
  exact z.lg
 |true=>
 have hf:b.flaw Qu=0:=hg rfl;refine⟨_,hB.sees3 (o:=0) rfl,?_⟩
 repeat refine⟨rfl,?_⟩
 conv=>whnf
 apply Qe<;>intro I
 .refine⟨yL.any,WD.go λ _=>?_⟩
  repeat refine⟨rfl,?_⟩
  conv=>whnf
  exact z.lg
 have bn:0<h.rl:=by simp at I;omega
 have T:=Bk.ok_of hf;have b4:=T.nr;have bj:=T.nc;obtain⟨q,a4⟩:∃q,q=rt % h.rl:=⟨_,rfl⟩;have hq:q<h.rl:=a4▸Nat.mod_lt _ bn;have aj:q<b.rs.length:=O1
 have a6:(IntKind.wrap .i64 (rt:Int)).tmod (h.rl:Nat)=(q:Nat):=by rw[ZZ O1,a4];exact(Int.ofNat_tmod _ _).symm
 have hF:b.askF (q:Int)=0:=Bk.askF_zero hf aj;obtain⟨N,br,m⟩:=Bk.wd_facts T aj;have b3:=Bk.sub_len N;refine⟨_,hB.sees3 (o:=0) rfl,rfl,O1,?_⟩;rw[a6];refine⟨_,⟨rfl,A _ Qp⟩,Lr.any,(Tryz.WithdrawR_ok h b ae (hk.lg z.lg) (q:Int)).mono ?_⟩;rintro _ U2⟨⟨_,rfl,D,X,rfl,hL,L⟩,E⟩-;have bs:b.wdF (q:Int)=b.wdL q:=by unfold Bk.wdF;rw[if_pos hF,Int.toNat_natCast]
 rw[bs]at hL L ⊢;rw[hF];have aq:=z.trans E;have af:=ae.lg E.lg.frz2;refine⟨_,⟨rfl,A _ (SX Qp E)⟩,Qcf.any,(Qbj h b af (hk.lg aq.lg) hf D _ X (b.wdL q) hL O1 (Bk.sub_rises N) q hq).go λ _=>?_⟩;have a8:(b.wo (WR (b.wdL q)).testBit).fatR q=1:=by simpa[Bk.wdP]using br
 rw[a8]
 repeat refine⟨rfl,?_⟩
 refine⟨_,⟨rfl,A _ (SX Qp E)⟩,Q0h.any,(Qp5 h b af bj bits).mono ?_⟩;rintro _ U3⟨⟨oa,oc,rfl,hO,-⟩,R⟩-;have u:=b.partTo_sub bits;have b5:=Bk.sub_len u;have ar:=aq.trans R;have Z:=E.trans R;have ah:=af.lg R.lg.frz2;have aw:=hL.lg R.lg.frz2;refine⟨_,⟨rfl,A _ (SX Qp Z)⟩,Qcf.any,(Qbj h b ah (hk.lg ar.lg) hf oa _ oc _ hO O1 (Bk.sub_rises u) q hq).go λ _=>?_⟩
 have bq:(b.wo (WR (Bk.partTo bits b.cs.length)).testBit).fatR q=1->Qdh (Bk.partTo bits b.cs.length) (b.wdL q)=false:=λ e=>by
  unfold Qdh;rcases m _ u (by unfold Bk.wdP;rw[e];rfl)with t|⟨b1,bi⟩
  .rw[decide_eq_false O1,decide_eq_false O1];rfl
  .rw[bi,decide_eq_false O1];simp
 refine⟨rfl,?_⟩;cases bf:(b.wo (WR (Bk.partTo bits b.cs.length)).testBit).fatR q==1
 case' true=>
  have bo:=bq (by simpa using bf);refine⟨Q0j.any,(Qga oa D oc X _ _ (hO.lg Qp) (aw.lg Qp) O1 O1).go λ _=>?_⟩;rw[bo]
 all_goals
  refine⟨Nat,λ i=>[(3,.pointer (some ⟨B,0,none⟩)),(7,.int .i64 q),(8,.slice D (b.wdL q).length X),(13,.int .i64 ((range i).countP λ j=>(b.cas j).ag==(q:Int):Nat)),(14,.int .i64 i)],λ i U'=>U3.le U'/\i<=h.cl,λ i=>h.cl-i,0,T1,⟨.refl _,O1⟩,?_⟩;rintro i f U4⟨F,hi⟩;have a0:Zu ((i:Int)+1):=I1
  have au:=Z.trans F;have bz:(range i).countP (λ j=>(b.cas j).ag==(q:Int))<=i:=Nat.le_trans countP_le_length S1;refine⟨_,(hB.le au).sees3 (o:=1) rfl,?_⟩
  repeat refine⟨rfl,?_⟩
  conv=>whnf
  apply Qe<;>intro I
  .have t:i<h.cl:=by simpa using I
   obtain⟨ad,c,ga,gl,gc,aa,al,ac,hx,be,ak,a5,-,-,-,-,-⟩:=(ah.lg F.lg.frz2).case t;have ax:b.cas i=c:=by simp[Bk.cas,getD_eq_getElem?_getD,hx]
   have r:(range (i+1)).countP (λ j=>(b.cas j).ag==(q:Int))=(range i).countP (λ j=>(b.cas j).ag==(q:Int))+if c.ag==(q:Int)then 1 else 0:=by
    rw[range_succ,countP_append,countP_singleton,ax]
   refine⟨_,(hB.le au).sees3 (o:=1) rfl,ad,i,⟨be,rfl,t⟩,_,(a5.lg Qp).cell (i:=1) rfl,?_⟩
   repeat refine⟨rfl,?_⟩
   conv=>whnf
   apply Qe<;>intro I
   .have hc1:(c.ag==(q:Int))=true:=I;rw[hc1,if_pos rfl]at r;refine⟨I1,?_⟩;refine⟨a0,?_⟩
    conv=>whnf
    exact⟨rfl,i+1,⟨rfl,rfl,rfl,by rw[r];rfl,rfl,trivial⟩,⟨F,O1⟩,L1⟩
   .have hc1:(c.ag==(q:Int))=false:=I;rw[hc1,if_neg S1,Nat.add_zero]at r;refine⟨a0,?_⟩
    conv=>whnf
    exact⟨rfl,i+1,⟨rfl,rfl,rfl,by rw[r];rfl,rfl,trivial⟩,⟨F,O1⟩,L1⟩
  have bg:i=b.cs.length:=by simp at I;omega
  have bv:=m _ (filter_sublist) (Bk.wd_ag T aj);have bt:=b.ag_count q;rw[bg]
  repeat refine⟨rfl,?_⟩
  conv=>whnf
  apply Qe<;>intro I
  .exfalso;simp at I;omega
  refine⟨Nat,λ i=>[(3,.pointer (some ⟨B,0,none⟩)),(7,.int .i64 q),(8,.slice D (b.wdL q).length X),(15,.int .i64 i)],λ i U'=>U3.le U'/\i<=(b.wdL q).length,λ i=>(b.wdL q).length-i,0,T1,⟨F,O1⟩,?_⟩;rintro k f O⟨G,b2⟩;have V:Zu ((k:Int)+1):=I1
  have Y:=ar.trans G
  repeat refine⟨rfl,?_⟩
  conv=>whnf
  apply Qe<;>intro I
  .have t:k<(b.wdL q).length:=by simpa using I
   have P:=aw.lg G.lg.frz2;have av:U1.frz.lg O.frz:=(Z.trans G).lg.frz2;have b0:=Q4x t;have ay:=(Q4z (b.wdL q) k).trans N;have bh:(k:Int)+1=((k+1:Nat):Int):=O1
   have bk:((b.wo (WR ((b.wdL q).take k++(b.wdL q).drop (k+1))).testBit).fatR q==1)=false:=by
    cases he:(b.wo (WR ((b.wdL q).take k++(b.wdL q).drop (k+1))).testBit).fatR q==1 with
    |false=>rfl
    |true=>
     rcases m _ ay he with h1|⟨h1,-⟩ <;> omega
   have e1:(if X=0 then D else D.map (·.add (0*1)))=D:=by
    split
    .rfl
    .obtain⟨am,-,-,rfl,ak,-⟩:=P.at t;obtain⟨bb,oo,ss⟩:=am;cases ak;rfl
   have bp:QS O.frz D (((b.wdL q).take k).map λ n=>.int .i64 n):=by have:=Zbz P k;rwa [ite_self]at this
   have a7:QS O.frz (if X=k+1 then D else D.map (·.add ((k+1)*1))) (((b.wdL q).drop (k+1)).map λ n=>.int .i64 n):=by
    by_cases ai:k+1<(b.wdL q).length
    .rw[if_neg O1];exact Q41 P ai
    .rw[drop_eq_nil_of_le O1];obtain⟨am,-,-,rfl,ak,-⟩:=P.at t;split
     .exact .inr ⟨_,rfl,λ i v C=>by simp at C⟩
     .exact .inr ⟨_,rfl,λ i v C=>by simp at C⟩
   generalize bd:(if X=k+1 then D else D.map (·.add ((k+1)*1)))=da at a7
   conv=>whnf
   intro bu K
   refine SQ (mu:=[1023]) (ops:=Pl Tryz.f11 23) (id:=23) K [1,5,10,12] [[0,2,3,4,6,7,8,9,11,1,5,10,12,13,14,15,16]] [17] Qdc Qvy Qf K1 K1 K1 K1 K1
    (λ f' an U'=>an=[]/\XF f' [(3,.pointer (some ⟨B,0,none⟩)),(7,.int .i64 q),(8,.slice D (b.wdL q).length X),(10,.int .i64 ((b.wo (WR ((b.wdL q).take k++(b.wdL q).drop (k+1))).testBit).fatR q)),(15,.int .i64 k),(118,.bool true)]/\O.le U') ?_ ?_
   .intro l hl;simp only[Qdc,mem_cons,not_mem_nil,or_false]at hl;subst hl;refine⟨_,⟨rfl,A _ av⟩,0,k,⟨rfl,rfl,O1,O1⟩,?_⟩;rw[e1];refine⟨V,k+1,(b.wdL q).length,⟨bh,rfl,O1,L⟩,?_⟩;rw[bd];refine⟨λ v U'=>Qjj O [] v U',λ v x1 x2 s d=>s.le d,λ v U' s=>s.2.1,λ U' y=>?_,λ v C=>?_⟩
    .conv=>whnf
     intro p hp;exact⟨_,.refl _,_,.refl _,.new y⟩
    obtain⟨_,⟨a1,l1,c1,rfl⟩,-,-⟩:=C;refine⟨λ v U'=>Qjj O ((b.wdL q).take k) v U',λ v x1 x2 s d=>s.le d,λ v U' s=>s.2.1,λ U' y=>?_,λ v C=>?_⟩
    .conv=>whnf
     refine Ws (v:=.slice a1 l1 c1) (cs:=([]:List Int).map λ n=>.int .i64 n) (new:=((b.wdL q).take k).map λ n=>.int .i64 n) (M₀:=O.M) Hf rfl rfl y.2.2 ((bp.lgs y.2.1.frz2).lgs Qp) S3 (Qvv _) S3 λ v' M' H _=>?_;obtain⟨ta,tl,tc,rfl,-⟩:=Acc.src (U:={ U' with M:=M' }) H;exact⟨_,.refl _,⟨⟨_,_,_,rfl⟩,⟨y.2.1.imm,⟨_,(append_nil _).symm⟩,y.2.1.tok⟩,by simpa using H⟩⟩
    obtain⟨_,⟨a2,l2,c2,rfl⟩,-,-⟩:=C;refine⟨λ v U'=>Qjj O ((b.wdL q).take k++(b.wdL q).drop (k+1)) v U',λ v x1 x2 s d=>s.le d,λ v U' s=>s.2.1,λ U' y=>?_,λ v C=>?_⟩
    .conv=>whnf
     refine Ws (v:=.slice a2 l2 c2) (cs:=((b.wdL q).take k).map λ n=>.int .i64 n) (new:=((b.wdL q).drop (k+1)).map λ n=>.int .i64 n) (M₀:=O.M) Hf rfl rfl y.2.2 ((a7.lgs y.2.1.frz2).lgs Qp) S1 (Qvv _) S3 λ v' M' H _=>?_;obtain⟨ta,tl,tc,rfl,-⟩:=Acc.src (U:={ U' with M:=M' }) H;exact⟨_,.refl _,⟨⟨_,_,_,rfl⟩,⟨y.2.1.imm,⟨_,(append_nil _).symm⟩,y.2.1.tok⟩,by simpa using H⟩⟩
    obtain⟨_,⟨a3,l3,c3,rfl⟩,-,-⟩:=C;refine⟨λ v U'=>v=.tuple #[.int .i64 ((b.wo (WR ((b.wdL q).take k++(b.wdL q).drop (k+1))).testBit).fatR q),.bool true]/\O.le U',λ v x1 x2 s d=>⟨s.1,s.2.trans d⟩,λ v U' s=>Qp.trans s.2.lg,λ U' y=>?_,λ v C=>?_⟩
    .refine⟨Qcf.any,(Qjj.give (xs:=λ v=>#[h.v,v,.int .i64 q]) y λ U6 ga ap e d ab=>?_).mono λ v U' C _=>⟨U',.refl _,C⟩⟩;rw[e];exact(Qbj h b (ah.lg (G.trans d).lg.frz2) (hk.lg (Y.trans d).lg) hf ga _ ap _ ab O1 (Bk.sub_rises ay) q hq).mono λ v U'⟨h1,h2⟩=>⟨h1,h2▸d⟩
    obtain⟨_,rfl,-⟩:=C
    conv=>whnf
    rintro U'⟨-,d⟩;exact⟨rfl,T1,d⟩
   rintro f' an U6⟨rfl,az,d⟩;rw[<- az.ovr];clear az
   conv=>whnf
   intro a' S;refine⟨by rw[S.size,K.size],_,S.get,?_⟩;rw[S.ds];clear S K;refine⟨rfl,?_⟩;rw[bk];refine⟨V,?_⟩
   conv=>whnf
   exact⟨rfl,k+1,T1,⟨G.trans d,O1⟩,L1⟩
  refine⟨yL.any,(ao _ Y.lg).go λ _=>?_⟩
  repeat refine⟨rfl,?_⟩
  conv=>whnf
  exact Y.lg
end Go.Proofs

