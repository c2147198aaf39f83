/- Lemmas. No conditions. -/
import Derived.Test.YtnpfcnfhfkflhaaGreatDoorC04
import Derived.Test.YtnpfcnfhfkflhaaGreatDoorC00
import Derived.Test.YtnpfcnfhfkflhaaGreatDoorC05
set_option linter.all false
open List
open Go.Proofs.Tryz (prog)
set_option maxRecDepth 100000
namespace Go.TM
def Bk.askF_zero{b:Bk}{r:Nat}(d:b.flaw Qu=0)(e:r<b.rs.length):b.askF (r:Int)=0:=by
 unfold Bk.askF;rw[if_pos d,if_pos];unfold Bk.nr;simp[btw];omega
end Go.TM
namespace Go.TM
variable{T:Type}{U U':Qa T}
def Bk.woF(b:Bk)(l:List Int):Int:=if b.flaw Qu=0 then J1 b.nc none l else b.flaw Qu
def Zq.zero:Zq U BH.zero ⟨[],[]⟩:=⟨⟨rfl,λ i x h=>by simp at h⟩,⟨rfl,λ i x h=>by simp at h⟩,by show 0<_;decide,by show 0<_;decide,S1,S1⟩
def Zr2{b:Nat}{c:Array Value}{e:TypeId}{vs:List Value}{M₀:List Qx}{Q:Qa T->Prop}(q:WH U)(g:U.M=.obj b (.cells c e (0,0))::M₀)(f:c.size=vs.length)(j:∀v∈vs,v.single=true)
  (h:∀d:Qa T,(∀x o,U.I x=some o->d.I x=some o)->d.tok=U.tok->d.M=M₀->Zi d b vs.toArray->Q d):ZA ⟨b,0,none⟩ vs 0 (λ U''=>∃d,Qw U'' d/\Q d) U:=by
 refine VP [] vs 0 c U g j O1 ?_;rw[Y7 f];refine⟨_,We (b:=b) (M':=M₀) (Perm.refl _),h _ (λ x o i=>?_) rfl rfl Zi.new⟩;show JI U.I b _ x=_;unfold JI;rw[if_neg]
 .exact i
 .rintro rfl;have m:=q (.obj x (.cells c e (0,0))) (by rw[g];exact mem_cons_self ..);rw[show U.I x=none from m]at i;cases i
end Go.TM
namespace Go.Proofs
open Go.TM
section
variable{T:Type}{S:TM.Sys prog T}{U:Qa T}
attribute [local irreducible] Qb Zl Wt
def Zpf(a h:Option Addr)(len cap d:Nat)(l:List ByteArray)(B:Q5 U a len 1 l λ s vs=>vs=[.string s])(t:Q5 U h len 1 l λ s vs=>vs=[.string s])(z:len<2^60) :
  Qb S 59 #[.slice a len cap,.slice h len d] (λ v U'=>v=.bool true/\U'=U) U:=by
 refine Qb.pure' (Qb.of (args:=[_,_]) Zqe Qf S1 ?_)
 repeat refine⟨rfl,?_⟩
 conv=>whnf
 apply Qe<;>intro e
 .exact absurd e S1
 refine⟨Nat,λ i=>[(0,.slice a len cap),(1,.slice h len d),(5,.int .i64 i)],λ i U'=>U.le U'/\i<=len,λ i=>len-i,0,T1,⟨.refl _,O1⟩,?_⟩;rintro i f G⟨b,I⟩;have q:Zu ((i:Int)+1):=I1
 repeat refine⟨rfl,?_⟩
 conv=>whnf
 apply Qe<;>intro e
 .have hlt:i<len:=by simpa using e
  obtain⟨A,x,vs,D,o,-,rfl,-,C⟩:=B.at hlt;obtain⟨j,F,E,w,g,-,rfl,-,u⟩:=t.at hlt;obtain rfl:x=F:=Option.some.inj (D.symm.trans w);refine⟨A,i,⟨o,rfl,hlt⟩,_,(C.lg b.lg) 0 _ rfl,j,i,⟨g,rfl,hlt⟩,_,(u.lg b.lg) 0 _ rfl,?_⟩
  conv=>whnf
  intro H m _
  repeat refine⟨rfl,?_⟩
  conv=>whnf
  apply Qe<;>intro e
  .exact absurd e S1
  refine⟨q,?_⟩
  conv=>whnf
  exact⟨rfl,i+1,T1,⟨b.trans m,O1⟩,L1⟩
 repeat refine⟨rfl,?_⟩
 conv=>whnf
 exact b.lg
def Zk5(h:BH)(b:Bk)(M:Zq U.frz h b)(hk:WA U)(a:Option Addr)(len cap:Nat)(l:List Int)(hl:Z5 U.frz a len l)(t:len<2^60) :
  Qb S 41 #[h.v,.slice a len cap] (λ v U'=>(∃d:BH,v=.tuple #[d.v,.int .i64 (b.woF l)]/\Zq U'.frz d (if b.woF l=0 then b.wo (WR l).testBit else⟨[],[]⟩)/\d.rl<=d.rc)/\U.le U') U:=by
 refine Qb.grown (R:=λ v U'=>∃d:BH,v=.tuple #[d.v,.int .i64 (b.woF l)]/\Zq U' d (if b.woF l=0 then b.wo (WR l).testBit else⟨[],[]⟩)/\d.rl<=d.rc) (λ v C O hl⟨d,e,h1,h2⟩=>⟨d,e,h1.lg hl,h2⟩) (Qb.of (args:=[_,_]) Zqa Qf S1 ?_);have Z:=M.cs.1;have G:=M.cl;have ac:b.nc=(h.cl:Int):=by unfold Bk.nc;rw[Z]
 repeat refine⟨rfl,?_⟩
 conv=>whnf
 intro B C f Q;have Q:Zi C B #[.slice h.ra h.rl h.rc,.slice h.ca h.cl h.cc]:=Q
 conv=>whnf
 intro P z;refine⟨_,.refl _,?_⟩;have m:=Z4 (U:=C) P (.cells #[.slice none 0 0,.slice none 0 0] 25);have w:=Q.lg m;have I:=(hl.lg f.lg.frz2).lg Qp;refine⟨_,⟨rfl,w.rd⟩,?_⟩;refine⟨VA.any,(O4 h b (((M.lg f.lg.frz2).lg Qp).lg m) ((hk.lg f.lg).lg m)).go λ _=>?_⟩
 repeat refine⟨rfl,?_⟩
 conv=>whnf
 apply Qe<;>intro F
 .have H:b.flaw Qu≠0:=by simpa using F
  have T:b.woF l=b.flaw Qu:=by unfold Bk.woF;rw[if_neg H]
  rw[T,if_neg H];refine⟨rfl,Zt (vs:=[.slice none 0 0,.slice none 0 0]) z rfl (by simp[Value.single]) λ O g j=>?_⟩;refine⟨_,⟨rfl,j.rd⟩,?_⟩
  conv=>whnf
  exact⟨⟨BH.zero,rfl,.zero,Nat.le_refl _⟩,(f.trans g).lg⟩
 have H:b.flaw Qu=0:=by simpa using F
 have J:=Bk.ok_of H;have ad:=J.nc;have T:b.woF l=J1 (h.cl:Int) none l:=by unfold Bk.woF;rw[if_pos H,ac]
 rw[T];refine⟨_,w.sees3 (o:=1) rfl,YV.any,(L6 a len cap l (I.lg m) t h.cl G).go λ _=>?_⟩
 repeat refine⟨rfl,?_⟩
 conv=>whnf
 apply Qe<;>intro F
 .have N:J1 (h.cl:Int) none l≠0:=by simpa using F
  rw[if_neg N];refine⟨rfl,Zt (vs:=[.slice none 0 0,.slice none 0 0]) z rfl (by simp[Value.single]) λ O g j=>?_⟩;refine⟨_,⟨rfl,j.rd⟩,?_⟩
  conv=>whnf
  exact⟨⟨BH.zero,rfl,.zero,Nat.le_refl _⟩,(f.trans g).lg⟩
 have N:J1 (h.cl:Int) none l=0:=by simpa using F
 have aa:=Yk N;have D:∀n∈l,0<=n/\n<60:=λ n hn=>by have:=aa n hn;omega
 rw[N,if_pos rfl];have ho:WR l<2^60:=Hz (toNat_lt D);refine⟨_,⟨rfl,w.rd⟩,?_⟩;refine⟨.int .i64 (WR l:Nat),λ U' ab _=>?_,?_⟩
 .refine⟨XT.any,(Ja a len cap l ((I.lg m).lg ab.lg) t D).mono ?_⟩;rintro _ U''⟨rfl,W⟩-;obtain rfl:=W.symm;exact⟨rfl,_,.refl _,.refl _⟩
 have q:Hlr C P 25 #[.slice none 0 0,.slice none 0 0] (C.put P (.cells #[.slice none 0 0,.slice none 0 0] 25)):=.made (.refl _) z
 conv=>whnf
 intro O g _;have q:=q.le g;refine⟨Ow.any,(LS h b ((M.lg f.lg.frz2).lg q.frz2) J (WR l) ho).mono ?_⟩;rintro _ U3⟨⟨d,rfl,Y,A⟩,X⟩K;have q:=q.le X;refine⟨rfl,Zr2 (vs:=[.slice d.ra d.rl d.rc,.slice d.ca d.cl d.cc]) K q.own rfl (by simp[Value.single]) λ U4 E L V j=>?_⟩;refine⟨_,⟨rfl,j.rd⟩,?_⟩
 conv=>whnf
 exact⟨⟨d,rfl,Y.lg ⟨E,⟨[],rfl⟩,L⟩,A⟩,⟨λ x u hx=>E x u (q.imm x u (f.imm x u hx)),⟨[],by rw[V,f.own];rfl⟩,L.trans (q.tok.trans f.tok)⟩⟩
def Qzk(h:BH)(b:Bk)(w:Zq U.frz h b)(F:WA U)(E:b.flaw Qu=0)(r:Nat)(z:r<h.rl):Qb S 49 #[h.v,.int .i64 r] (λ v U'=>v=.tuple #[.int .i64 (b.fatR r),.bool true]/\U'=U) U:=by
 refine Qb.pure' (Qb.of (args:=[_,_]) Znw Qf S1 ?_);have q:=w.rs.1
 repeat refine⟨rfl,?_⟩
 conv=>whnf
 intro B A d f;have f:Zi A B #[.slice h.ra h.rl h.rc,.slice h.ca h.cl h.cc]:=f;refine⟨_,⟨rfl,f.rd⟩,?_⟩;refine⟨Fj.any,(yC h b (w.lg d.lg.frz2) (F.lg d.lg)).mono ?_⟩;rintro _ I⟨⟨_,_,rfl,⟨ra,rc,rfl,g⟩,⟨ca,cc,rfl,J⟩⟩,e⟩-;rw[E]at g ⊢;rw[if_pos rfl]at g;rw[if_pos rfl];have G:b.fatesR.length=h.rl:=by simp[Bk.fatesR,q]
 rw[G]at g ⊢;obtain⟨j,H,u,m,C,t⟩:=g.at z;obtain rfl:b.fatR r=H:=Option.some.inj ((show b.fatesR[r]?=some (b.fatR r) by simp[Bk.fatesR,show r<b.rs.length by omega]).symm.trans u)
 repeat refine⟨rfl,?_⟩
 refine⟨_,(f.lg e.lg).sees3 (o:=0) rfl,?_⟩
 repeat refine⟨rfl,?_⟩
 conv=>whnf
 apply Qe<;>intro D
 .exact absurd D S1
 refine⟨j,r,⟨m,rfl,z⟩,_,t.lg Qp,?_⟩
 repeat refine⟨rfl,?_⟩
 conv=>whnf
 exact(d.trans e).lg
def Zp3(h:BH)(b:Bk)(K:Zq U.frz h b)(M:WA U)(L:b.flaw Qu=0)(a:Option Addr)(len cap:Nat)(l:List Int)(Q:Z5 U.frz a len l)(A:len<2^60)(G:J1 b.nc none l=0)(r:Nat)(V:r<h.rl) :
  Qb S 46 #[h.v,.slice a len cap,.int .i64 r] (λ v U'=>v=.tuple #[.int .i64 ((b.wo (WR l).testBit).fatR r),.bool true]/\U'=U) U:=by
 refine Qb.pure' (Qb.of (args:=[_,_,_]) Zqb Qf S1 ?_);have R:=K.rs.1;have J:b.woF l=0:=by unfold Bk.woF;rw[if_pos L,G]
 have z:=Bk.wo_flaw L (WR l).testBit
 repeat refine⟨rfl,?_⟩
 conv=>whnf
 intro B O e C;have C:Zi O B #[.slice h.ra h.rl h.rc,.slice h.ca h.cl h.cc]:=C;have w:=K.lg e.lg.frz2;refine⟨_,⟨rfl,C.rd⟩,?_⟩;refine⟨Zqa.any,(Zk5 h b w (M.lg e.lg) a len cap l (Q.lg e.lg.frz2) A).mono ?_⟩;rintro _ T⟨⟨d,rfl,q,t⟩,E⟩-;rw[J,if_pos rfl]at q;rw[J];have N:b.rs.length=d.rl:=q.rs.1
 conv=>whnf
 intro P F;refine⟨_,.refl _,rfl,Zt (vs:=[.slice d.ra d.rl d.rc,.slice d.ca d.cl d.cc]) F rfl (by simp[Value.single]) λ H u f=>?_⟩;have j:=E.trans u;have D:=C.lg j.lg;have m:=w.lg j.lg.frz2;have g:=q.lg u.lg.frz2;have f:Zi H P #[.slice d.ra d.rl d.rc,.slice d.ca d.cl d.cc]:=f;have I:d.rl=h.rl:=O1
 repeat refine⟨rfl,?_⟩
 refine⟨_,f.sees3 (o:=0) rfl,_,D.sees3 (o:=0) rfl,?_⟩
 conv=>whnf
 rw[I];refine⟨Zqe.any,(Zpf d.ra h.ra h.rl d.rc h.rc b.rs ((show Q5 H.frz d.ra h.rl 1 b.rs _ from I▸g.rs).lg Qp λ _ _ h=>h) (m.rs.lg Qp λ _ _ h=>h) m.rl).go λ _=>?_⟩;refine⟨_,⟨rfl,f.rd⟩,?_⟩;refine⟨D6.any,(xZ d _ g t).go λ _=>?_⟩;rw[z]
 repeat refine⟨rfl,?_⟩
 refine⟨_,⟨rfl,f.rd⟩,?_⟩;refine⟨Znw.any,(Qzk d _ g (M.lg (e.trans j).lg) z r O1).go λ _=>?_⟩
 repeat refine⟨rfl,?_⟩
 conv=>whnf
 exact(e.trans j).lg
end
end Go.Proofs
namespace Go.TM
variable{T:Type}{U U':Qa T}
def Zpz(bits i:Nat):Bool:=(IntKind.wrap .u8 ((BitVec.ofInt (IntKind.bits .u8) (((bits:Nat):Int).fdiv (2^(min ((i:Nat):Int).toNat (IntKind.bits .u8))))&&&BitVec.ofInt (IntKind.bits .u8) 1).toNat:Nat))==1
def Bk.sub_rises{b:Bk}{y:List Int}(h:y.Sublist b.every):J1 b.nc none y=0:=by
 refine YE (b.every_asc.sublist h) (λ x e=>?_) S1;obtain⟨k,d,rfl⟩:=mem_map.1 (h.subset e);rw[mem_range]at d;unfold Bk.nc;omega
def Bk.sub_len{b:Bk}{y:List Int}(h:y.Sublist b.every):y.length<=b.cs.length:=by have:=h.length_le;rwa [b.every_len]at this
def Qvz(l:List Int):∀w∈l.map λ n=>Value.int .i64 n,w.single=true:=λ w b=>by obtain⟨n,-,rfl⟩:=mem_map.1 b;rfl
def Zpq{l:List Int}{i:Nat}(h:i<l.length):(l.take i++l.drop (i+1)).length=l.length-1:=S3
def Zpu(l:List Int)(i:Nat):(l.take i++l.drop (i+1)).Sublist l:=by rw[<- eraseIdx_eq_take_drop_succ];exact eraseIdx_sublist ..
def Zra{a:Option Addr}{len:Nat}{l:List Int}(h:Z5 U a len l)(i:Nat):QS U (if i=0 then a else a) ((l.take i).map λ n=>.int .i64 n):=by
 rw[ite_self,map_take];rcases h.src' with⟨d,e⟩|⟨f,d,e⟩
 .exact .inl ⟨d,by rw[e];simp⟩
 .refine .inr ⟨f,d,λ k v b=>e k v ?_⟩;rw[getElem?_take]at b;split at b
  .exact b
  .cases b
def Zpw{a:Option Addr}{len:Nat}{l:List Int}(h:Z5 U a len l){i:Nat}(m:i<len):QS U (a.map (·.add (i*1))) ((l.drop i).map λ n=>.int .i64 n):=by
 obtain⟨b,-,-,rfl,e,-⟩:=h.at m;rcases h.src' with⟨d,f⟩|⟨q,d,f⟩
 .cases d
 .cases d;refine .inr ⟨_,rfl,λ k v g=>?_⟩;rw[map_drop,getElem?_drop]at g;have:=f _ v g;obtain⟨j,o,t⟩:=b;cases e;rw[Qo]at this;show U.sees (((Addr.mk j o none).add (i*1)).add k) v;rw[Qo,Qo,Nat.mul_one,Nat.add_assoc];exact this
end Go.TM
namespace Go.Proofs
open Go.TM
section
variable{T:Type}{S:TM.Sys prog T}{U:Qa T}
attribute [local irreducible] Qb Zl Wt
end
end Go.Proofs
namespace Go.TM
def Qjj(l:List Int)(m k:Nat):List (List Int):=(range k).flatMap λ i=>(parts (l.drop (i+1)) m).map ((l.getD i 0)::·)
def Zk4(l:List Int)(m k:Nat):Qjj l m (k+1)=Qjj l m k++(parts (l.drop (k+1)) m).map ((l.getD k 0)::·):=by
 unfold Qjj;rw[range_succ,flatMap_append];simp
def Zoo:∀(l:List Int)(m:Nat),Qjj l m l.length=parts l (m+1)
 |[],m=>rfl
 |a::l,m=>by
  rw[show parts (a::l) (m+1)=(parts l m).map (a::·)++parts l (m+1) from rfl,<- Zoo l m];unfold Qjj;rw[length_cons,range_succ_eq_map,flatMap_cons,flatMap_map];rfl
def Qvv:∀(l:List Int)(m:Nat),(parts l m).length<=2^l.length
 |l,0=>by rw[P4];exact Nat.one_le_two_pow
 |[],m+1=>by simp[parts]
 |a::l,m+1=>by
  have b:=Qvv l m;have d:=Qvv l (m+1);rw[show parts (a::l) (m+1)=(parts l m).map (a::·)++parts l (m+1) from rfl,length_append,length_map,length_cons,Nat.pow_succ];omega
def Zp1(l:List Int)(m:Nat)(b:l.length<=5):∀k,(Qjj l m k).length<=k*32
 |0=>by simp[Qjj]
 |k+1=>by
  have d:=Zp1 l m b k;have e:=Qvv (l.drop (k+1)) m;have f:2^(l.drop (k+1)).length<=2^5:=Nat.pow_le_pow_right O1 S3;rw[Zk4,length_append,length_map];omega
def Zrb(l:List Int)(m:Nat):∀p∈parts l m,p.length=m:=λ p b=>(Gk.1 b).2
end Go.TM
namespace Go.Proofs
open Go.TM
variable{T:Type}{S:TM.Sys prog T}
attribute [local irreducible] Qb Zl Wt
set_option maxHeartbeats 2000000 in
def Zoq:∀(m:Nat)(l:List Int)(U:Qa T)(a:Option Addr)(c:Nat),m<=5->l.length<=5->l.length<=c->Z5 U.frz a l.length l ->
  Qb S 89 #[.slice a l.length c,.int .i64 m] (λ v U'=>Zm0 U' v (TM.parts l m)/\U.le U') U:=by
 intro m
 induction m with
 |zero=>
  intro l U a c _ ab ae hl;refine Qb.of (args:=[_,_]) Q0j Qf S1 ?_
  repeat refine⟨rfl,?_⟩
  conv=>whnf
  intro t B;refine Zk B λ U1 ar V=>?_;have V:Zi U1 t #[.slice none 0 0]:=V
  repeat refine⟨rfl,?_⟩
  conv=>whnf
  rw[P4];refine⟨⟨some ⟨t,0,none⟩,1,[.slice none 0 0],rfl,.inr ⟨_,rfl,(show Zi U1.frz t _ from V).rd⟩,(λ P e=>by cases e;rfl),rfl,λ i x w=>?_⟩,ar⟩
  obtain⟨rfl,rfl⟩:i=0/\x=[]:=by
   cases i with
   |zero=>exact⟨rfl,by simpa using w.symm⟩
   |succ i=>simp at w
  exact⟨none,0,rfl,⟨rfl,λ i x w=>by simp at w⟩,S1⟩
 |succ m ih=>
  intro l U a c hm ab ae hl
  have al:Qb S 89 #[.slice a l.length c,.int .i64 ((m+1:Nat):Int)] (λ v U'=>∃cells,Acc 26 1 v cells U'.M U.M/\Xn U' cells (TM.parts l (m+1))/\(∀x O,U.I x=some O->U'.I x=some O)/\U'.tok=U.tok) U:=by
   refine Qb.of (args:=[_,_]) Q0j Qf S1 ?_
   repeat refine⟨rfl,?_⟩
   refine⟨Nat×Value,λ y=>[(0,.slice a l.length c),(1,.int .i64 ((m+1:Nat):Int)),(5,y.2),(6,.int .i64 y.1)],λ y U'=>U.frz.lg U'/\y.1<=l.length/\∃cells,Acc 26 1 y.2 cells U'.M U.M/\Xn U' cells (Qjj l m y.1),λ y=>l.length-y.1,(0,.slice none 0 0),T1,⟨Qp,O1,[],.nil,rfl,by simp[Qjj]⟩,?_⟩;rintro⟨i,v⟩f U3⟨C,hi,cells,j,d⟩;simp only at j d hi;obtain⟨oa,ol,oc,rfl,a8,-⟩:=j.src;have Z:Zu ((i:Int)+1):=I1
   have J:Z5 U3.frz a l.length l:=hl.lg C.frz2;have F:=Zk4 l m i
   repeat refine⟨rfl,?_⟩
   conv=>whnf
   apply Qe<;>intro W
   rotate_left
   .have hge:i=l.length:=by simp at W;omega
    rw[hge,Zoo]at d
    repeat refine⟨rfl,?_⟩
    conv=>whnf
    exact⟨cells,j,d,C.imm,C.tok⟩
   have ag:i<l.length:=by simpa using W
   refine⟨Z,i+1,l.length,⟨O1,rfl,O1,ae⟩,?_⟩
   have hD:Z5 U3.frz (if c=i+1 then a else a.map (·.add ((i+1)*1))) (l.drop (i+1)).length (l.drop (i+1)):=by
    by_cases D:i+1<l.length
    .rw[if_neg O1];obtain⟨am,-,-,rfl,aj,-⟩:=J.at D
     exact Vf (Zpw J D) λ P e=>by
      obtain⟨bb,oo,ss⟩:=am;cases aj;cases e;show(Addr.add ⟨bb,oo,none⟩ ((i+1)*1)).spot=none;rw[Qo]
    .rw[drop_eq_nil_of_le O1];exact⟨rfl,λ i x w=>by simp at w⟩
   generalize(if c=i+1 then a else a.map (·.add ((i+1)*1)))=da at hD ⊢;rw[show l.length-(i+1)=(l.drop (i+1)).length by simp];have em:((m+1:Nat):Int)-1=(m:Int):=O1
   refine⟨I1,?_⟩;rw[em];refine⟨Q0j.any,(ih (l.drop (i+1)) U3 da (c-(i+1)) O1 S3 S3 hD).mono ?_⟩;rintro _ U4⟨⟨ra,rc,g,rfl,E,ai,z⟩,A⟩-;have ax:=Qvv (l.drop (i+1)) m;have a9:2^(l.drop (i+1)).length<=2^5:=Nat.pow_le_pow_right O1 S3;have a5:=Zp1 l m ab i;generalize hP:TM.parts (l.drop (i+1)) m=ps at z F ax;have au:=z.1;refine⟨Nat×Value,λ y=>[(0,.slice a l.length c),(1,.int .i64 ((m+1:Nat):Int)),(5,y.2),(6,.int .i64 i),(7,.slice ra g.length rc),(8,.int .i64 y.1)],λ y U'=>U4.frz.lg U'/\y.1<=g.length/\∃cs,Acc 26 1 y.2 cs U'.M U.M/\Xn U' cs (Qjj l m i++(ps.take y.1).map ((l.getD i 0)::·)),λ y=>g.length-y.1,(0,.slice oa ol oc),T1,⟨Qp,O1,cells,by rw[A.own];exact j,by simpa using d.lg A.lg.frz2⟩,?_⟩;clear j d;rintro⟨k,v⟩f U5⟨o,hk,cs,j,d⟩;simp only at j d hk;obtain⟨ta,tl,tc,rfl,ba,-⟩:=j.src;have aa:Zu ((k:Int)+1):=I1
   repeat refine⟨rfl,?_⟩
   conv=>whnf
   apply Qe<;>intro W
   rotate_left
   .have hge:k=g.length:=by simp at W;omega
    rw[hge,au,take_length,<- F]at d;refine⟨Z,?_⟩
    conv=>whnf
    exact⟨rfl,(i+1,.slice ta tl tc),T1,⟨⟨λ x O w=>o.imm x O (A.imm x O (C.imm x O w)),⟨_,(append_nil _).symm⟩,o.tok.trans (A.tok.trans C.tok)⟩,by show i+1<=l.length;omega,cs,j,d⟩,L1⟩
   have af:k<g.length:=by simpa using W
   obtain⟨x,w⟩:∃x,ps[k]?=some x:=⟨_,getElem?_eq_getElem O1⟩;obtain⟨xa,xc,a0,az,a4⟩:=z.2 k x w;obtain⟨P,y,hy,ea,a3,ay⟩:=J.at ag;have ak:l.getD i 0=y:=by simp[getD_eq_getElem?_getD,hy]
   rw[ak]at d;have ao:U3.frz.lg U5.frz:=A.lg.frz2.trans o.frz2;have aw:(ps.take (k+1)).map (y::·)=(ps.take k).map (y::·)++[y::x]:=by rw[take_add_one,w,map_append];rfl
   obtain⟨G,e',hr⟩:∃G,ra=some G/\Jn U4.frz G g:=by
    rcases E with⟨_,hn⟩|h
    .subst hn;simp at af
    .exact h
   have bc:x.length<=5:=by
    have:=Zrb (l.drop (i+1)) m x (by rw[hP];exact mem_of_getElem? w);omega
   refine⟨P,i,⟨ea,rfl,ag⟩,_,(ay.lg ao).lg Qp,G,k,⟨e',rfl,af⟩,.slice xa x.length xc,by rw[Nat.mul_one];exact(hr k _ a0).lg o,?_⟩;refine⟨λ v U'=>∃t,v=.slice (some ⟨t,0,none⟩) 1 1/\Zi U' t #[.int .i64 y],λ v y1 y2⟨t,e,Y⟩q=>⟨t,e,Y.le q⟩,λ U' q _=>?_,λ v L=>?_⟩
   .conv=>whnf
    intro t B;exact Zk B λ U9 Q B=>⟨_,.refl _,⟨t,rfl,B⟩,Q⟩
   obtain⟨_,-,-,t,rfl,-⟩:=L;refine⟨λ v U'=>∃H nc n,v=.slice H n nc/\n=(y::x).length/\Z5 U'.frz H (y::x).length (y::x),λ v y1 y2⟨H,nc,n,e,hn,Y⟩q=>⟨H,nc,n,e,hn,Y.lg q.lg.frz2⟩,λ U' q hC=>?_,λ v L=>?_⟩
   .obtain⟨-,bn',e,hB⟩:=hC;obtain rfl:t=bn':=by simpa using e
    have aq:=az.lg (o.frz2.trans q.lg.frz2)
    conv=>whnf
    refine UK (sa:=some ⟨t,0,none⟩) (sl:=1) (cs:=[.int .i64 y]) (new:=x.map λ n=>.int .i64 n) Hf rfl rfl (.inr ⟨_,rfl,hB.rd⟩) rfl (aq.lg Qp).src' S1 S3 (λ ah=>?_) (λ a7 b c cap hf h1 h2 h3=>?_)
    .obtain rfl:x=[]:=by simpa using ah
     exact⟨U',.refl _,⟨_,_,_,rfl,rfl,Vf (.inr ⟨_,rfl,(show Zi U'.frz t _ from hB).rd⟩) λ P e=>by cases e;rfl⟩,.refl _⟩
    .exact Zk hf λ U9 Q V=>⟨⟨_,_,_,rfl,S3,Vf (.inr ⟨_,rfl,(show Zi U9.frz b c from V).reads (λ k v L=>by rw[Nat.zero_add];exact h3 k v L)⟩) λ P e=>by cases e;rfl⟩,Q⟩
   obtain⟨_,-,-,H,nc,n,rfl,av,-⟩:=L;refine⟨λ v U'=>∃N,v=.slice (some ⟨N,0,none⟩) 1 1/\Zi U' N #[.slice H n nc],λ v y1 y2⟨t,e,Y⟩q=>⟨t,e,Y.le q⟩,λ U' q _=>?_,λ v L=>?_⟩
   .conv=>whnf
    intro N K;exact Zk K λ U9 Q K=>⟨_,.refl _,⟨N,rfl,K⟩,Q⟩
   obtain⟨_,-,-,N,rfl,-⟩:=L
   conv=>whnf
   rintro U6 h6⟨⟨⟨-,-⟩,a1,a2,n',e2,-,hI⟩,an,e3,ap⟩;obtain⟨rfl,rfl,rfl⟩:H=a1/\n=n'/\nc=a2:=by simpa using e2
   obtain rfl:N=an:=by simpa using e3
   have ac:=o.trans h6.lg;have X:=d.1
   conv=>whnf
   refine Ws (v:=.slice ta tl tc) (cs:=cs) (new:=[.slice H n nc]) (M₀:=U.M) jz rfl rfl (by rw[h6.own];exact j) (.inr ⟨_,rfl,ap.rd⟩) rfl (by simp[Value.single]) (by rw[X,length_append,length_map,length_take];simp;omega) λ v' M' R _=>?_;obtain⟨ua,ul,uc,rfl,-,-⟩:=Acc.src (U:={ U6 with M:=M' }) R;refine⟨aa,rfl,(k+1,.slice ua ul uc),T1,⟨⟨ac.imm,⟨_,(append_nil _).symm⟩,ac.tok⟩,by show k+1<=g.length;omega,cs++[.slice H n nc],R,?_⟩,L1⟩;rw[ak];show Xn _ _ (_++(ps.take (k+1)).map (y::·));rw[aw,<- append_assoc,av];exact(d.lg h6.lg.frz2).snoc hI S3
  refine al.sep λ v U' hs⟨cells,j,d,hI,ht⟩=>?_;obtain⟨U'',k1,k2,a',len,cap,rfl,a6,E,ai,_⟩:=Acc.freeze (U:={ U' with M:=U.M }) hs j (λ _ _ h=>h) rfl;obtain rfl:cells.length=len:=O1
  have hz:U'.frz.lg U''.frz:=⟨k2.imm,⟨[],rfl⟩,k2.tok⟩;exact⟨U'',k1,⟨a',cap,cells,rfl,E,ai,d.lg hz⟩,⟨λ x u w=>k2.imm x u (hI x u w),k2.own,k2.tok.trans ht⟩⟩
end Go.Proofs
namespace Go.TM
variable{b:Bk}
def Zq8(A:List (List Nat))(out:Nat->Bool)(s:Nat)(L:List Nat)(x:Nat):Qdg A out (s+1) (L++[x])=Qdg A out (s+1) L++(if out x then Qdg A out s (Je A x)else[x]):=by
 simp[Qdg]
def Zrv(A:List (List Nat))(out:Nat->Bool)(s:Nat):Qdg A out s []=[]:=by cases s <;> simp[Qdg]
def Qqa{A:List (List Nat)}(b:∀i,(Je A i).length<=5)(out:Nat->Bool):∀(s:Nat)(L:List Nat),(Qdg A out s L).length<=L.length*5^s
 |0,L=>by simp[Qdg]
 |s+1,[]=>by simp[Qdg]
 |s+1,x::L=>by
  have d:=Qqa b out (s+1) L;have f:=Qqa b out s (Je A x);have g:=Nat.mul_le_mul_right (5^s) (b x);have e:Qdg A out (s+1) (x::L)=(if out x then Qdg A out s (Je A x)else[x])++Qdg A out (s+1) L:=rfl;have h:0<5^s:=Nat.pow_pos O1;rw[e,length_append,length_cons,Nat.succ_mul,Nat.pow_succ]at *;split
  .omega
  .simp;omega
end Go.TM
namespace Go.Proofs
open Go.TM
variable{T:Type}{S:TM.Sys prog T}
attribute [local irreducible] Qb Zl Wt
set_option maxHeartbeats 2000000 in
def Znq(h:BH)(b:Bk)(R:b.Ok)(ρ:Nat->Nat)(hρ:∀i,i<b.cs.length->∀k∈Je b.A i,k<b.cs.length/\ρ k<ρ i)(out:List Int)(oa:Option Addr)(g oc:Nat)(an:g<2^60):∀(s:Nat)(L:List Nat)(U:Qa T),s<=6->L.length<=5->Zq U.frz h b->Z5 U.frz oa g out->(∀x∈L,x<b.cs.length/\ρ x<s)->∀(Z:Option Addr)(lc:Nat),Z5 U.frz Z L.length (Qae L) ->
  Qb S 138 #[h.v,.slice Z L.length lc,.slice oa g oc] (λ v U'=>Jd U'.frz v (Qae (Qdg b.A (λ k=>out.contains (k:Int)) s L))/\U.le U') U:=by
 intro s
 induction s using Nat.strongRecOn with
 |_ s ih=>
 intro L U ap a2 hb hO aj Z lc hL;have a5:=hb.cs.1
 have H:∀i,(Je b.A i).length<=5:=λ i=>by
  unfold Je Bk.A;rw[getD_eq_getElem?_getD,getElem?_map];cases hi:b.cs[i]? with
  |none=>simp
  |some c=>simpa using(R.asc (mem_of_getElem? hi)).1
 refine Qb.ints (e:=3) (Qb.of (args:=[_,_,_]) Zbz Qf S1 ?_)
 repeat refine⟨rfl,?_⟩
 conv=>whnf
 intro B U1 D hB;have hB:Zi U1 B #[.slice h.ra h.rl h.rc,.slice h.ca h.cl h.cc]:=hB;have ah:Zi U1.frz B #[.slice h.ra h.rl h.rc,.slice h.ca h.cl h.cc]:=hB;refine⟨Nat×Value,λ y=>[(1,.slice Z L.length lc),(2,.slice oa g oc),(3,.pointer (some ⟨B,0,none⟩)),(7,y.2),(8,.int .i64 y.1)],λ y U'=>U1.frz.lg U'/\y.1<=L.length/\Acc 3 1 y.2 ((Qae (Qdg b.A (λ k=>out.contains (k:Int)) s (L.take y.1))).map λ n=>.int .i64 n) U'.M U.M,λ y=>L.length-y.1,(0,.slice none 0 0),T1,⟨Qp,O1,by rw[D.own,take_zero,Zrv];exact .nil⟩,?_⟩;rintro⟨i,v⟩f U3⟨j,hi,d⟩;simp only at d hi;obtain⟨sa,sl,sc,rfl,a7,-⟩:=d.src;have O:Zu ((i:Int)+1):=I1
 have G:U.frz.lg U3.frz:=D.lg.frz2.trans j.frz2;have ai:=hL.lg G;have K:=hO.lg G;have F:=hb.lg G;have J:Zi U3 B #[.slice h.ra h.rl h.rc,.slice h.ca h.cl h.cc]:=ah.lg j
 repeat refine⟨rfl,?_⟩
 conv=>whnf
 apply Qe<;>intro hc
 rotate_left
 .have hge:i=L.length:=by simp at hc;omega
  rw[hge,take_length]at d
  repeat refine⟨rfl,?_⟩
  conv=>whnf
  exact⟨d,λ x ox V=>j.imm x ox (D.imm x ox V),j.tok.trans D.tok⟩
 have z:i<L.length:=by simpa using hc
 obtain⟨x,V⟩:∃x,L[i]?=some x:=⟨_,getElem?_eq_getElem z⟩;obtain⟨ar,a8⟩:=aj x (mem_of_getElem? V);obtain⟨s,rfl⟩:∃s',s=s'+1:=⟨s-1,O1⟩;have aq:L.take (i+1)=L.take i++[x]:=by rw[take_add_one,V];rfl
 have C:=Zq8 b.A (λ k=>out.contains (k:Int)) s (L.take i) x;rw[<- aq]at C;have a4:=Qqa H (λ k=>out.contains (k:Int)) (s+1) (L.take i);have ae:5^(s+1)<=5^6:=Nat.pow_le_pow_right O1 ap;have ax:=Nat.mul_le_mul (show(L.take i).length<=5 by simp;omega) ae;obtain⟨ad,y,hy,ea,a0,I⟩:=ai.at z;obtain rfl:((x:Nat):Int)=y:=by simpa[Qae,V]using hy
 refine⟨ad,i,⟨ea,rfl,z⟩,_,I.lg Qp,Qoa.any,(Qbj oa g oc out (K.lg Qp) an (x:Int)).go λ _=>?_⟩;cases Y:out.contains (x:Int)with
 |false=>
  rw[show(if(λ k:Nat=>out.contains (k:Int)) x=true then Qdg b.A (λ k=>out.contains (k:Int)) s (Je b.A x)else[x])=[x] from if_neg (by show ¬out.contains (x:Int)=true;rw[Y];simp)]at C;refine⟨ad,i,⟨ea,rfl,z⟩,_,I.lg Qp,?_⟩
  conv=>whnf
  intro bn t;refine Zk t λ X m t=>?_;have t:Zi X bn #[.int .i64 x]:=t;have u:=j.trans m.lg
  conv=>whnf
  refine Ws (v:=.slice sa sl sc) (cs:=(Qae (Qdg b.A (λ k=>out.contains (k:Int)) (s+1) (L.take i))).map λ n=>.int .i64 n) (new:=[.int .i64 (x:Int)]) (M₀:=U.M) Hf rfl rfl (by rw[m.own];exact d) (.inr ⟨_,rfl,t.rd⟩) rfl (by simp[Value.single]) (by simp only[length_map,length_cons,length_nil];omega) λ v' M' q _=>?_;obtain⟨ta,tl,tc,rfl,-,-⟩:=Acc.src (U:={ X with M:=M' }) q;refine⟨O,?_⟩
  conv=>whnf
  exact⟨rfl,(i+1,.slice ta tl tc),T1,⟨⟨u.imm,⟨_,(append_nil _).symm⟩,u.tok⟩,by show i+1<=L.length;omega,by show Acc 3 1 _ ((Qae (Qdg _ _ _ (L.take (i+1)))).map _) _ _;rw[C,Qae,map_append,map_append];exact q⟩,L1⟩
 |true=>
  rw[show(if(λ k:Nat=>out.contains (k:Int)) x=true then Qdg b.A (λ k=>out.contains (k:Int)) s (Je b.A x)else[x])=Qdg b.A (λ k=>out.contains (k:Int)) s (Je b.A x) from if_pos Y]at C;have W:x<h.cl:=O1
  obtain⟨ab,c,ga,gl,gc,aa,al,ac,au,am,a1,ao,hg,a6,ha,a3,P⟩:=F.case W;have E:=Bk.aft1_at au
  have ak:Qae (Je b.A x)=c.af:=by
   rw[E];show(c.af.map Int.toNat).map (λ(k:Nat)=>(k:Int))=c.af;rw[map_map];exact(map_congr_left λ n hn=>by have:=R.af c P n hn;show((n.toNat:Nat):Int)=n;omega).trans (map_id _)
  have N:al=(Je b.A x).length:=by rw[<- ha.1,E,length_map]
  subst N;have Q:=H x;have ay:=Qqa H (λ k=>out.contains (k:Int)) s (Je b.A x);have ag:5^s<=5^6:=Nat.pow_le_pow_right O1 O1;have az:=Nat.mul_le_mul Q ag;refine⟨_,⟨rfl,J.rd⟩,?_⟩;refine⟨_,J.sees3 (o:=1) rfl,ad,i,⟨ea,rfl,z⟩,_,I.lg Qp,ab,x,⟨am,rfl,W⟩,_,(ao.lg Qp).cell (i:=3) rfl,λ v U'=>Jd U'.frz v (Qae (Qdg b.A (λ k=>out.contains (k:Int)) s (Je b.A x))),λ v y1 y2 Y w=>Y.lg w.lg.frz2,λ U' w _=>?_,λ v hv=>?_⟩
  .refine⟨Zbz.any,(ih s O1 (Je b.A x) U' O1 Q (F.lg w.lg.frz2) (K.lg w.lg.frz2) (λ k hk=>by have:=hρ x ar k hk;omega) aa ac (by rw[ak];exact ha.lg w.lg.frz2)).mono λ v U''⟨q1,q2⟩_=>⟨U'',.refl _,q1,q2⟩⟩
  obtain⟨_,-,-,ra,rc,rfl,-⟩:=hv
  conv=>whnf
  rintro X m⟨-,av,aw,e,hI⟩;obtain⟨rfl,rfl⟩:ra=av/\rc=aw:=by simpa using e
  have u:=j.trans m.lg
  conv=>whnf
  refine Ws (v:=.slice sa sl sc) (cs:=(Qae (Qdg b.A (λ k=>out.contains (k:Int)) (s+1) (L.take i))).map λ n=>.int .i64 n) (new:=(Qae (Qdg b.A (λ k=>out.contains (k:Int)) s (Je b.A x))).map λ n=>.int .i64 n) (M₀:=U.M) Hf rfl rfl (by rw[m.own];exact d) (hI.lg Qp).src' S1 (Qvz _) (by simp only[length_map];omega) λ v' M' q _=>?_;obtain⟨ta,tl,tc,rfl,-,-⟩:=Acc.src (U:={ X with M:=M' }) q;refine⟨O,?_⟩
  conv=>whnf
  exact⟨rfl,(i+1,.slice ta tl tc),T1,⟨⟨u.imm,⟨_,(append_nil _).symm⟩,u.tok⟩,by show i+1<=L.length;omega,by show Acc 3 1 _ ((Qae (Qdg _ _ _ (L.take (i+1)))).map _) _ _;rw[C,Qae,map_append,map_append];exact q⟩,L1⟩
end Go.Proofs
namespace Go.Proofs
open Go.TM
variable{T:Type}{S:TM.Sys prog T}{U:Qa T}
attribute [local irreducible] Qb Zl Wt
def Zk8(a:Option Addr)(c:Nat)(l:List Int)(t:Z5 U a l.length l)(M:l.length<=5)(n:Int)(m:∀x∈l,0<=x/\x<n)(h:l.Pairwise (· < ·)) :
  Qb S 50 #[.slice a l.length c,.int .i64 n] (λ v U'=>v=.bool true/\U'=U) U:=by
 refine Qb.pure' (Qb.of (args:=[_,_]) Zqc Qf S1 ?_);refine⟨Nat,λ i=>[(0,.slice a l.length c),(1,.int .i64 n),(5,.int .i64 i)],λ i U'=>U.le U'/\i<=l.length,λ i=>l.length-i,0,T1,⟨.refl _,O1⟩,?_⟩;rintro i f J⟨b,N⟩;have d:Zu ((i:Int)+1):=I1
 repeat refine⟨rfl,?_⟩
 conv=>whnf
 apply Qe<;>intro g
 .have hlt:i<l.length:=by simpa using g
  obtain⟨j,x,w,rfl,-,o⟩:=(t.lg b.lg).at hlt;obtain⟨E,F⟩:=m x (mem_of_getElem? w);refine⟨j,i,⟨rfl,rfl,hlt⟩,_,o,?_⟩
  repeat refine⟨rfl,?_⟩
  conv=>whnf
  apply Zr<;>intro g
  rotate_left
  .exfalso;simp at g;omega
  refine⟨j,i,⟨rfl,rfl,hlt⟩,_,o,?_⟩
  repeat refine⟨rfl,?_⟩
  conv=>whnf
  apply Zr<;>intro g
  rotate_left
  .exfalso;simp at g;omega
  repeat refine⟨rfl,?_⟩
  conv=>whnf
  apply Zr<;>intro g
  .have hi1:1<=i:=by simp at g;omega
   obtain⟨A,y,G,B,-,q⟩:=(t.lg b.lg).at (show i-1<l.length by omega);cases B;have C:(i:Int)-1=((i-1:Nat):Int):=O1
   have u:y<x:=by
    obtain⟨H,K⟩:=List.getElem?_eq_some_iff.1 w;obtain⟨I,L⟩:=List.getElem?_eq_some_iff.1 G;have:=pairwise_iff_getElem.1 h (i-1) i I H O1;omega
   have D:decide (x<=y)=false:=S3
   refine⟨j,i,⟨rfl,rfl,hlt⟩,_,o,I1,?_⟩;rw[C];refine⟨j,i-1,⟨rfl,rfl,O1⟩,_,q,?_⟩
   conv=>whnf
   intro z e _
   repeat refine⟨rfl,?_⟩
   conv=>whnf
   rw[D]
   repeat refine⟨rfl,?_⟩
   refine⟨d,?_⟩
   conv=>whnf
   exact⟨rfl,i+1,T1,⟨b.trans e,O1⟩,L1⟩
  .conv=>whnf
   intro z e _
   repeat refine⟨rfl,?_⟩
   refine⟨d,?_⟩
   conv=>whnf
   exact⟨rfl,i+1,T1,⟨b.trans e,O1⟩,L1⟩
 .repeat refine⟨rfl,?_⟩
  conv=>whnf
  exact b.lg
end Go.Proofs
namespace Go.TM
variable{T:Type}{P:Program}{S:Sys P T}{U U' U'':Qa T}
def Zp8{fn:FuncId}{ro:Option Nat}{N:Nat}{mu dets:List Nat}{c:Code}{l:List St}{Q:Ex->Act->Qa T->Prop}{a:Act}{f:Fm}{ds:List Deferred}(q:FR N a f ds)(t:P.follows .mixedOrders=true)(o:clean P mu N dets c=.reg l)
  (h:(∃w,U.ok w)->∃d,Qw U d/\JW S ro l (λ f ds U=>∀b,FR N b f ds->Q .normal b U) f ds d):Zw S fn ro c Q a U:=
 Zr4 λ v=>by
  obtain⟨d,u,h⟩:=h v;refine j_ u (Zw.mono (G4 (mu:=mu) (dets:=dets) (n:=λ f ds U=>∀b,FR N b f ds->Q .normal b U) (x:=λ _ _ _ _=>False) (r:=λ _ _ _=>False) t c q (by rw[o];exact h)) ?_);rintro e b U'⟨z,m,g,j⟩;cases e with
  |normal=>exact j b g
  |exit i=>exact j.elim
  |ret=>exact j.elim
def Qek{m:Nat}:∀{L:List (List Value)},(∀r∈L,r.length=m)->L.flatten.length=L.length*m
 |[],_=>S1
 |r::L,h=>by
  rw[flatten_cons,length_append,h r (mem_cons_self ..),Qek λ x b=>h x (mem_cons_of_mem _ b),length_cons,Nat.succ_mul];omega
def Zqt{m:Nat}:∀{L:List (List Value)},(∀r∈L,r.length=m)->∀{j k:Nat}{r:List Value},L[j]?=some r->k<m->L.flatten[j*m+k]?=r[k]?
 |[],_,j,k,r,b,_=>by simp at b
 |a::L,h,0,k,r,b,d=>by
  simp at b;subst b;rw[flatten_cons,Nat.zero_mul,Nat.zero_add,getElem?_append_left (by rw[h a (mem_cons_self ..)];exact d)]
 |a::L,h,j+1,k,r,b,d=>by
  simp at b;have e:=h a (mem_cons_self ..);rw[flatten_cons,getElem?_append_right (by rw[e,Nat.succ_mul];omega),e,show(j+1)*m+k-m=j*m+k by rw[Nat.succ_mul];omega];exact Zqt (λ x f=>h x (mem_cons_of_mem _ f)) b d
def Qdh(U:Qa T)(rows:List (List Value))(cs:List Cs):Prop:=rows.length=cs.length/\∀(i:Nat)(c:Cs),cs[i]?=some c->∃r,rows[i]?=some r/\HT U.frz c r
def Qdh.lg{rows:List (List Value)}{cs:List Cs}(h:Qdh U rows cs)(k:U.frz.lg U'.frz):Qdh U' rows cs:=⟨h.1,λ i c b=>let ⟨r,e,hr⟩:=h.2 i c b;⟨r,e,hr.lg k⟩⟩
def Qdh.nil:Qdh U [] []:=⟨rfl,λ i c h=>by simp at h⟩
def Qdh.snoc{rows:List (List Value)}{cs:List Cs}{c:Cs}{r:List Value}(h:Qdh U rows cs)(f:HT U.frz c r):Qdh U (rows++[r]) (cs++[c]):=by
 refine⟨by simp[h.1],λ i x b=>?_⟩;rw[getElem?_append]at b;split at b
 .rename_i hlt;obtain⟨g,e,d⟩:=h.2 i x b;exact⟨g,by rw[getElem?_append_left (by rw[h.1];exact hlt)];exact e,d⟩
 .rename_i hge;have:i=cs.length:=by have:=(List.getElem?_eq_some_iff.1 b).1;simp at this;omega
  subst this;simp at b;subst b;exact⟨r,by rw[<- h.1];simp,f⟩
def Qdh.row{rows:List (List Value)}{cs:List Cs}(h:Qdh U rows cs):∀r∈rows,r.length=4:=by
 intro r f;obtain⟨i,d⟩:=getElem?_of_mem f;have b:i<cs.length:=by rw[<- h.1];exact(List.getElem?_eq_some_iff.1 d).1
 obtain⟨u,e,o,t,q,g,m,j,rfl,-⟩:=h.2 i _ (getElem?_eq_getElem b);rw[d]at e;cases e;rfl
def Qdh.rows{rows:List (List Value)}{cs:List Cs}{a:Option Addr}(h:Qdh U rows cs)(A:QS U.frz a rows.flatten)(f:∀b,a=some b->b.spot=none):Q5 U.frz a cs.length 4 cs (HT U.frz):=by
 refine⟨rfl,λ i c t=>?_⟩;obtain⟨r,e,z⟩:=h.2 i c t;have o:=h.row r (mem_of_getElem? e);rcases A with⟨_,w⟩|⟨b,m,d⟩
 .have h1:=Qek h.row;rw[w]at h1;have C:=(List.getElem?_eq_some_iff.1 e).1;simp at h1;omega
 .have hs0:=f b m;refine⟨b,r,m,hs0,z,o,λ j v q=>?_⟩;have u:j<4:=by rw[<- o];exact(List.getElem?_eq_some_iff.1 q).1
  have g:=d (i*4+j) v (by rw[Zqt h.row e u];exact q);obtain⟨B,D,E⟩:=b;cases hs0;rw[Qo]at g;rw[Qo,Qo,Nat.add_assoc];exact g
def HqV(f:Qa T)(R:Qa T->Prop)(b:Nat)(e:TypeId)(z:Array Value)(U':Qa T):Prop:=∃d,f.le d/\R d/\Hlr d b e z U'
def HqV.le{f:Qa T}{R:Qa T->Prop}{b:Nat}{e:TypeId}{z:Array Value}(h:HqV f R b e z U')(k:U'.le U''):HqV f R b e z U'':=let ⟨d,h1,h2,h3⟩:=h;⟨d,h1,h2,h3.le k⟩
def HqV.frz{d:Qa T}{R:Qa T->Prop}{b:Nat}{e:TypeId}{z:Array Value}(h:HqV d R b e z U'):d.frz.lg U':=let ⟨_,h1,_,h3⟩:=h;h1.lg.frz2.trans h3.frz1
def HqV.of{d:Qa T}{R:Qa T->Prop}{b:Nat}{e:TypeId}{z:Array Value}(h:Hlr d b e z U')(g:U'.le U'')(m:WH U'')(j:R { U'' with M:=d.M }):HqV d R b e z U'':=by
 have f:=h.le g;refine⟨{ U'' with M:=d.M },⟨f.imm,rfl,f.tok⟩,j,⟨λ _ _ h=>h,f.own,rfl,?_⟩⟩;exact m (.obj b (.cells z e (0,0))) (by rw[f.own];exact mem_cons_self ..)
end Go.TM
namespace Go.Proofs
open Go.TM
variable{T:Type}{S:TM.Sys prog T}{U:Qa T}
attribute [local irreducible] Qb Zl Wt
def Zqy:List St:=[.xo 57 1 3,.xl 58 57,.xd 59 4 5,.d 60 (.bsl 49 1 #[(.string ⟨#[]⟩),(.int .i64 0),(.slice none 0 0),(.slice none 0 0)] [(0,4,(.t 59))]),.xz 61 58 60 23,.xo 62 1 3,⟨.st 1 (.t 62) (.t 61),none,none,none⟩]
set_option maxHeartbeats 4000000 in
def Q0o(h:BH)(b:Bk)(hb:Zq U.frz h b)(hs:b.Sml) :
  Qb S 102 #[h.v] (λ v U'=>(∃E:BH,v=E.v/\Zq U'.frz E b)/\U.le U') U:=by
 have dj:=hb.cs.1;have cy:=hb.rs.1;have dr:=hs.rs;have dt:=hs.cs
 have cb:Qb S 102 #[h.v] (λ v U'=>∃(E:BH)(rows:List (List Value))(A J Y:List Qx),v=E.v/\Qdh U' rows b.cs/\Jw 49 4 (.slice E.ca E.cl E.cc) rows.flatten A/\Jw 9 1 (.slice E.ra E.rl E.rc) (b.rs.flatMap λ s=>[.string s]) J/\U'.M.Perm (A++(J++(Y++U.M)))/\(∀x o,U.I x=some o->U'.I x=some o)/\U'.tok=U.tok) U:=by
  refine Qb.of (args:=[_]) Qlg Qf S1 ?_
  repeat refine⟨rfl,?_⟩
  conv=>whnf
  intro B U1 ai hB;have hB:Zi U1 B #[.slice h.ra h.rl h.rc,.slice h.ca h.cl h.cc]:=hB;have bf:=hb.lg ai.lg.frz2
  conv=>whnf
  intro b2 dk;refine⟨_,.refl _,?_⟩;have cx:=Z4 (U:=U1) b2 (.cells #[.slice none 0 0,.slice none 0 0] 25)
  conv=>whnf
  intro b7 cp;refine⟨_,.refl _,?_⟩;have Q:=cx.trans (Z4 (U:=U1.put b2 (.cells #[.slice none 0 0,.slice none 0 0] 25)) b7 (.cells #[] 9));refine⟨_,(hB.lg Q).sees3 (o:=0) rfl,?_⟩;have cz:=jp (enc:=λ s=>[Value.string s]) (n:=1) (λ _=>rfl) (show Q5 U1.frz h.ra b.rs.length 1 b.rs _ from cy▸bf.rs) D1;have b0:(b.rs.flatMap λ s=>[Value.string s]).length=b.rs.length*1:=Q0 (f:=λ s=>[Value.string s]) (n:=1) (λ _=>rfl) _
  conv=>whnf
  refine Ws (v:=.slice (some ⟨b7,0,none⟩) 0 0) (cs:=[]) (new:=b.rs.flatMap λ s=>[.string s]) (M₀:=.obj b2 (.cells #[.slice none 0 0,.slice none 0 0] 25 (0,0))::U1.M) MT rfl rfl .empty (cz.lgs (Qp.trans Q)) O1 (λ w hw=>by obtain⟨s,-,hw⟩:=mem_flatMap.1 hw;rw[mem_singleton.1 hw];rfl) (by rw[b0,length_nil];omega) λ v' M' z _=>?_;obtain⟨J,aw,ah⟩:=z.split;obtain⟨ra,rl,rc,rfl,-⟩:=ah.src
  conv=>whnf
  intro b3 co;refine⟨_,.refl _,rfl,HR (vs:=[.slice ra rl rc,.slice none 0 0]) rfl (by simp[Value.single]) ?_⟩;generalize bd:(.obj b2 (.cells #[.slice none 0 0,.slice none 0 0] 25 (0,0))::U.M:List Qx)=Y2;have aw:M'=J++Y2:=by rw[aw,ai.own,bd]
  clear Q z cp co
  refine⟨Nat×Value,λ y=>[(1,.pointer (some ⟨B,0,none⟩)),(2,.pointer (some ⟨b2,0,none⟩)),(3,.pointer (some ⟨b3,0,none⟩)),(4,.int .i64 y.1)],
   λ y U'=>U1.frz.lg U'/\y.1<=h.cl/\∃(rows:List (List Value))(A:List Qx),Qdh U' rows (b.cs.take y.1)/\Jw 49 4 y.2 rows.flatten A/\U'.M=A++.obj b3 (.cells [.slice ra rl rc,y.2].toArray 25 (0,0))::(J++Y2),
   λ y=>h.cl-y.1,(0,.slice none 0 0),T1,⟨⟨λ _ _ h=>h,⟨_,(append_nil _).symm⟩,rfl⟩,O1,[],[],by rw[take_zero];exact .nil,.nil,by show _::M'=_;rw[aw];rfl⟩,?_⟩
  rintro⟨i,v⟩f T⟨P,hi,rows,A,d,H,hM⟩;simp only at hi d H hM;obtain⟨sa,sl,sc,rfl,du⟩:=H.src;have cu:Zu ((i:Int)+1):=I1
  have ar:=hB.imI P.imm;have bg:=bf.lg P.frz2;refine⟨_,ar.sees3 (o:=1) rfl,?_⟩
  repeat refine⟨rfl,?_⟩
  conv=>whnf
  apply Qe<;>intro hc
  rotate_left
  .have hge:i=b.cs.length:=by simp at hc;omega
   rw[hge,take_length]at d;subst bd;have ck:T.M=(A++.obj b3 (.cells [.slice ra rl rc,.slice sa sl sc].toArray 25 (0,0))::J)++.obj b2 (.cells #[.slice none 0 0,.slice none 0 0] 25 (0,0))::U.M:=by rw[hM];simp
   refine⟨_,⟨rfl,Za A hM⟩,rfl,Wh (vs:=[.slice ra rl rc,.slice sa sl sc]) _ ck rfl (by simp[Value.single]) λ U4 Z am ab=>?_⟩;refine⟨_,⟨rfl,Za _ ab⟩,⟨ra,rl,rc,sa,sl,sc⟩,rows,A,J,[.obj b3 (.cells [.slice ra rl rc,.slice sa sl sc].toArray 25 (0,0)),.obj b2 (.cells [.slice ra rl rc,.slice sa sl sc].toArray 25 (0,0))],rfl,d.lg ⟨λ x o j=>by show U4.I x=_;rw[Z];exact j,⟨[],rfl⟩,am⟩,H,by simpa using ah,?_,λ x o j=>by rw[Z];exact P.imm x o (ai.imm x o j),am.trans (P.tok.trans ai.tok)⟩;rw[ab,append_assoc];refine Perm.append_left A ?_;show Perm (_::(J++_::U.M)) (J++(_::_::U.M));exact perm_middle.symm
  have ak:i<h.cl:=by simpa using hc
  obtain⟨ad,c,ga,gl,gc,aa,al,ac,j,az,c8,a0,hg,dp,ha,di,bu⟩:=bg.case ak;obtain⟨dm,cq,dn⟩:=hs.gs c bu;have c7:=hg.1;have be:=ha.1;have a3:=Qek d.row;have bz:rows.length=i:=by rw[d.1,length_take];omega
  refine⟨_,ar.sees3 (o:=1) rfl,ad,i,⟨az,rfl,ak⟩,_,⟨rfl,a0.lg Qp⟩,?_⟩
  conv=>whnf
  intro b5 dl;refine⟨_,.refl _,rfl,HR (vs:=[.string c.nm,.int .i64 c.ag,.slice ga gl gc,.slice aa al ac]) rfl (by simp[Value.single]) ?_⟩
  conv=>whnf
  intro a6 c5;refine⟨_,.refl _,_,(Za (e:=49) (M₀:=T.M) [.obj a6 (.cells #[] 3 (0,0))] rfl).cell (i:=3) rfl,?_⟩
  conv=>whnf
  refine Ws (v:=.slice (some ⟨a6,0,none⟩) 0 0) (cs:=[]) (new:=c.af.map λ n=>.int .i64 n) (M₀:=.obj b5 (.cells [.string c.nm,.int .i64 c.ag,.slice ga gl gc,.slice aa al ac].toArray 49 (0,0))::T.M) Hf rfl rfl .empty (ha.src'.lgs ⟨λ _ _ h=>h,⟨_,(append_nil _).symm⟩,rfl⟩) (by simp[be]) (Qvz _) S3 λ v' M' z _=>?_;obtain⟨F,ci,hF⟩:=z.split;have hF:Jw 3 1 v' (c.af.map λ n=>.int .i64 n) F:=by simpa using hF
  obtain⟨K,N,L,rfl,-⟩:=hF.src;refine⟨rfl,WS (i:=2) (v:=.slice none 0 0) F ci (by show 2<4;omega) rfl λ U4 Z am ab=>?_⟩;refine⟨rfl,WS (i:=3) (v:=.slice K N L) F ab (by show 3<4;omega) rfl λ U5 au a4 u=>?_⟩;have u:U5.M=F++.obj b5 (.cells [.string c.nm,.int .i64 c.ag,.slice none 0 0,.slice K N L].toArray 49 (0,0))::T.M:=u;have C:T.frz.lg U5:=⟨λ x o j=>by rw[au,Z];exact j,⟨_,(append_nil _).symm⟩,by rw[a4,am];rfl⟩
  refine⟨Nat×Value,λ y=>[(1,.pointer (some ⟨B,0,none⟩)),(2,.pointer (some ⟨b2,0,none⟩)),(3,.pointer (some ⟨b3,0,none⟩)),(4,.int .i64 i),(5,.pointer (some ⟨b5,0,none⟩)),(6,.int .i64 y.1)],
   λ y U'=>T.frz.lg U'/\y.1<=gl/\∃(cells:List Value)(G:List Qx),Xn U' cells (c.gs.take y.1)/\Jw 26 1 y.2 cells G/\U'.M=(G++F)++.obj b5 (.cells [.string c.nm,.int .i64 c.ag,y.2,.slice K N L].toArray 49 (0,0))::T.M,
   λ y=>gl-y.1,(0,.slice none 0 0),T1,⟨C,O1,[],[],⟨rfl,S1⟩,.nil,u⟩,?_⟩
  rintro⟨k,gv⟩f U6⟨D,hk,cells,G,m,hG,ae⟩;simp only at hk m hG ae;obtain⟨V,X,W,rfl,dv⟩:=hG.src;have bs:Zu ((k:Int)+1):=I1
  have a8:=ar.imI D.imm;have bh:=m.1;rw[length_take]at bh;refine⟨_,a8.sees3 (o:=1) rfl,ad,i,⟨az,rfl,ak⟩,_,(a0.lg D).cell (i:=2) rfl,?_⟩
  repeat refine⟨rfl,?_⟩
  conv=>whnf
  apply Qe<;>intro hc
  .have hlk:k<gl:=by simpa using hc
   obtain⟨cd,g,vs,br,cr,c9,⟨a',da,c4,rfl,bl,ct⟩,-,bx⟩:=Q5.at (J3.lg hg D.frz2) hlk;have c6:=cq g (mem_of_getElem? br);have bm:=bl.1;subst bm;refine⟨_,(Za (G++F) ae).cell (i:=2) rfl,_,a8.sees3 (o:=1) rfl,ad,i,⟨az,rfl,ak⟩,_,(a0.lg D).cell (i:=2) rfl,cd,k,⟨cr,rfl,hlk⟩,_,(bx.lg Qp) 0 _ rfl,λ v U'=>∃p,v=.slice (some ⟨p,0,none⟩) 0 0/\Zi U' p #[],λ v y1 y2⟨p,e,hh⟩t=>⟨p,e,hh.le t⟩,λ U' t _=>?_,λ v R=>?_⟩
   .conv=>whnf
    intro p hp;exact Zk hp λ U9 h9 hp=>⟨_,.refl _,⟨p,rfl,hp⟩,h9⟩
   obtain⟨_,-,-,p,rfl,-⟩:=R;refine⟨λ v U'=>∃na nc,v=.slice na g.length nc/\Z5 U'.frz na g.length g,λ v y1 y2⟨na,nc,e,hh⟩t=>⟨na,nc,e,hh.lg t.lg.frz2⟩,λ U' t hC=>?_,λ v R=>?_⟩
   .obtain⟨-,p',e,hP⟩:=hC;obtain rfl:p=p':=by simpa using e
    have cg:=bl.lg t.lg.frz2
    conv=>whnf
    refine UK (sa:=some ⟨p,0,none⟩) (sl:=0) (cs:=[]) (new:=g.map λ n=>.int .i64 n) Hf rfl rfl (.inr ⟨_,rfl,λ i v R=>by simp at R⟩) rfl (cg.lg Qp).src' S1 S3 (λ bv=>?_) (λ dq b c cap hf h1 h2 h3=>?_)
    .obtain rfl:g=[]:=by simpa using bv
     exact⟨U',.refl _,⟨_,_,rfl,rfl,λ i x j=>by simp at j⟩,.refl _⟩
    .rw[Nat.zero_add];exact Zk hf λ U9 h9 hb=>⟨⟨_,_,rfl,Vf (.inr ⟨_,rfl,(show Zi U9.frz b c from hb).reads (λ k v R=>by rw[Nat.zero_add];exact h3 k v R)⟩) λ ad e=>by cases e;rfl⟩,h9⟩
   obtain⟨_,-,-,na,nc,rfl,-⟩:=R;refine⟨λ v U'=>∃bq,v=.slice (some ⟨bq,0,none⟩) 1 1/\Zi U' bq #[.slice na g.length nc],λ v y1 y2⟨bn,e,hh⟩t=>⟨bn,e,hh.le t⟩,λ U' t _=>?_,λ v R=>?_⟩
   .conv=>whnf
    intro bq q;exact Zk q λ U9 h9 q=>⟨_,.refl _,⟨bq,rfl,q⟩,h9⟩
   obtain⟨_,-,-,bq,rfl,-⟩:=R
   conv=>whnf
   rintro U7 h7⟨⟨⟨-,-⟩,c0,c3,e2,hI⟩,ce,e3,cf⟩;obtain⟨rfl,rfl⟩:na=c0/\nc=c3:=by simpa using e2
   obtain rfl:bq=ce:=by simpa using e3
   conv=>whnf
   refine Ws (v:=.slice V X W) (cs:=cells) (new:=[.slice na g.length nc]) (M₀:=F++.obj b5 (.cells [.string c.nm,.int .i64 c.ag,.slice V X W,.slice K N L].toArray 49 (0,0))::T.M) jz rfl rfl (by rw[h7.own,ae,append_assoc];exact hG _) (.inr ⟨_,rfl,cf.rd⟩) rfl (by simp[Value.single]) S3 λ v' M' z _=>?_;obtain⟨G',cj,a9⟩:=z.split;obtain⟨ta,tl,tc,rfl,-⟩:=a9.src;refine⟨rfl,WS (i:=2) (v:=.slice ta tl tc) (G'++F) (by show M'=_;rw[cj,append_assoc]) (by show 2<4;omega) rfl λ U8 av a5 bc=>?_⟩;refine⟨bs,rfl,(k+1,.slice ta tl tc),T1,⟨⟨λ x o j=>by rw[av];exact h7.imm x o (D.imm x o j),⟨_,(append_nil _).symm⟩,by rw[a5];exact h7.tok.trans D.tok⟩,by show k+1<=gl;omega,cells++[.slice na g.length nc],G',?_,a9,bc⟩,L1⟩;show Xn U8 _ (c.gs.take (k+1));rw[Ji br];have hz:U6.frz.lg U8.frz:=⟨λ x o j=>by show U8.I x=_;rw[av];exact h7.imm x o j,⟨[],rfl⟩,by show U8.tok=_;rw[a5];exact h7.tok⟩;exact(m.lg hz).snoc (hI.lg ⟨λ x o j=>by show U8.I x=_;rw[av];exact j,⟨[],rfl⟩,by show U8.tok=_;rw[a5];rfl⟩) O1
  have bk:k=c.gs.length:=by simp at hc;omega
  rw[bk,take_length]at m;have bb:U6.M.Perm (G++(F++([.obj b5 (.cells [.string c.nm,.int .i64 c.ag,.slice V X W,.slice K N L].toArray 49 (0,0))]++T.M))):=by rw[ae,append_assoc];rfl
  conv=>whnf
  intro db O;refine Zp8 (mu:=[]) (dets:=[]) (l:=Zqy) O Qf K1 λ hw=>?_;obtain⟨τ₁,k1,k2,k3,df,dh,dg,e1,ao,bo,bp⟩:=hG.freeze (Ko hw) bb;cases e1;have b9:=LX hw k1;obtain⟨τ₂,m1,m2,m3,dc,de,dd,e2,an,bi,bj⟩:=hF.freeze (Ko b9) (by rw[k2]);cases e2;obtain⟨τ₃,n1,n2,n3,x1,x2,x3,e3,-,cm,-⟩:=(Jw.ofBlk (e:=49) (n:=4) (b:=b5) (len:=1) (cap:=1) (cs:=[.string c.nm,.int .i64 c.ag,.slice V X W,.slice K N L]) (c:=[Value.string c.nm,.int .i64 c.ag,.slice V X W,.slice K N L].toArray) rfl (Nat.le_refl _) rfl (λ i x j=>by simpa using j)).freeze (Ko (LX b9 m1)) (by rw[m2]);cases e3
  have bw:Jn τ₃.frz ⟨b5,0,none⟩ [.string c.nm,.int .i64 c.ag,.slice V X W,.slice K N L]:=by
   rcases cm with⟨h,_⟩|⟨ad,e,h⟩
   .cases h
   .cases e;exact h
  have bt:U6.frz.lg τ₃.frz:=k3.trans (m3.trans n3);have aq:T.frz.lg τ₃.frz:=D.frz2.trans bt;simp at ao an
  have ay:HT τ₃.frz c [.string c.nm,.int .i64 c.ag,.slice V X W,.slice K N L]:=by
   refine⟨_,_,_,_,_,_,rfl,?_,O1,?_,O1⟩
   .have:=((m.lg k3).lists bo bp).lg (m3.trans n3)
    rwa [<- m.1,ao]at this
   .have:=(Vf bi bj).lg n3
    rwa [an]at this
  have ba:τ₃.M=A++.obj b3 (.cells [.slice ra rl rc,.slice sa sl sc].toArray 25 (0,0))::(J++Y2):=n2.trans hM;refine⟨τ₃,k1.trans (m1.trans n1),_,(Za A ba).cell (i:=1) rfl,_,⟨rfl,bw.lg Qp⟩,?_⟩
  conv=>whnf
  intro bq q;refine Zk q λ τ₄ ax q=>?_;have q:Zi τ₄ bq #[.string c.nm,.int .i64 c.ag,.slice V X W,.slice K N L]:=q
  conv=>whnf
  refine Ws (v:=.slice sa sl sc) (cs:=rows.flatten) (new:=[.string c.nm,.int .i64 c.ag,.slice V X W,.slice K N L]) (M₀:=.obj b3 (.cells [.slice ra rl rc,.slice sa sl sc].toArray 25 (0,0))::(J++Y2)) Mf rfl rfl (by rw[ax.own,ba];exact H _) (.inr ⟨_,rfl,q.rd⟩) rfl (by simp[Value.single]) (by rw[a3,bz];simp;omega) λ v' M' z _=>?_;obtain⟨A',ch,a7⟩:=z.split;obtain⟨ta,tl,tc,rfl,-⟩:=a7.src;refine⟨rfl,WS (i:=1) (v:=.slice ta tl tc) A' ch (by show 1<2;omega) rfl λ τ₅ au a4 u=>?_⟩;have C:τ₃.frz.lg τ₅.frz:=⟨λ x o j=>by show τ₅.I x=_;rw[au];exact ax.imm x o j,⟨[],rfl⟩,by show τ₅.tok=_;rw[a4];exact ax.tok⟩;have ap:U1.frz.lg τ₅.frz:=P.frz2.trans (aq.trans C)
  conv=>whnf
  intro a' aj;refine⟨by rw[aj.size,O.size],_,aj.get,?_⟩;rw[aj.ds];clear aj O;refine⟨cu,rfl,(i+1,.slice ta tl tc),T1,⟨⟨ap.imm,⟨_,(append_nil _).symm⟩,ap.tok⟩,by show i+1<=h.cl;omega,rows++[[.string c.nm,.int .i64 c.ag,.slice V X W,.slice K N L]],A',?_,by simpa using a7,u⟩,L1⟩;show Qdh τ₅ _ (b.cs.take (i+1));rw[Ji j];exact(d.lg (aq.trans C)).snoc (ay.lg C)
 refine cb.okv λ v U' hw⟨E,rows,A,J,Y,R,d,hA,ah,hM,hI,ht⟩=>?_;obtain⟨τ₁,k1,k2,k3,a1,l1,c1,e1,cv,b1,b6⟩:=hA.freeze (Ko hw) hM;cases e1;obtain⟨τ₂,m1,m2,m3,a2,l2,c2,e2,cw,b4,b8⟩:=ah.freeze (Ko (LX hw k1)) (by rw[k2]);cases e2;rw[Qek d.row,d.1]at cv;rw[Q0 (f:=λ s=>[Value.string s]) (n:=1) (λ _=>rfl)]at cw;have hz:U'.frz.lg τ₂.frz:=k3.trans m3;refine⟨{ τ₂ with M:=U.M },k1.trans (m1.trans (Z1 (by rw[m2];exact sublist_append_right ..))),⟨E,R,⟨?_,?_,O1,O1,hb.rn,hb.cn⟩⟩,⟨λ x o j=>hz.imm x o (hI x o j),rfl,hz.tok.trans ht⟩⟩
 .have:=HV (enc:=λ s=>[Value.string s]) (n:=1) (λ _=>rfl) b4 b8 D1;rw[show b.rs.length=E.rl by omega]at this;exact this
 .have:=(d.lg k3).rows b1 b6;rw[show b.cs.length=E.cl by omega]at this;exact this.lg m3 λ _ _ h=>h.lg m3
end Go.Proofs
namespace Go.TM
def Zrc{A:List (List Nat)}(g:∀i,i<A.length->∀k∈Je A i,k<A.length)(h:Wq A=false):∃ρ:Nat->Nat,(∀x,ρ x<=A.length)/\∀i,i<A.length->∀k∈Je A i,ρ k<ρ i:=by
 obtain⟨ρ,o⟩:=wS h;refine⟨λ x=>(range A.length).countP λ y=>ρ y<ρ x,λ x=>Nat.le_trans countP_le_length S1,λ i b k d=>?_⟩;have f:=o i b k d;obtain⟨X,Y,e⟩:=append_of_mem (mem_range.2 (g i b k d));have m:∀l:List Nat,l.countP (λ y=>ρ y<ρ k)<=l.countP λ y=>ρ y<ρ i:=λ l=>countP_mono_left λ y _ j=>by simp at j ⊢;omega
 have q:=m X;have t:=m Y;show List.countP _ _<List.countP _ _;rw[e,countP_append,countP_append,countP_cons,countP_cons];simp[f];omega
def BH.inj{h b:BH}(e:h.v=b.v):h=b:=by
 cases h;cases b;simp[BH.v]at e;obtain⟨⟨rfl,rfl,rfl⟩,rfl,rfl,rfl⟩:=e;rfl
def Bk.flt(b:Bk)(o:Nat->Bool)(x k:Nat):List Nat:=(range k).filter λ q=>QP b.A o b.cs.length x ((b.kept o).getD q 0)
def Bk.flt_succ(b:Bk)(o:Nat->Bool)(x k:Nat):b.flt o x (k+1)=b.flt o x k++if QP b.A o b.cs.length x ((b.kept o).getD k 0)then[k]else[]:=by
 unfold Bk.flt;rw[range_succ,filter_append];congr 1;cases h:QP b.A o b.cs.length x ((b.kept o).getD k 0)
 .rw[filter_cons,h];rfl
 .rw[filter_cons,h];rfl
def Bk.wo_at{b:Bk}{o:Nat->Bool}{i x:Nat}(h:(b.kept o)[i]?=some x):(b.wo o).cs[i]?=some { b.cas x with af:=Qae (b.flt o x (b.kept o).length) }:=by
 simp only[Bk.wo,getElem?_map,h];rfl
end Go.TM
namespace Go.Proofs
open Go.TM
variable{T:Type}{S:TM.Sys prog T}{U:Qa T}
attribute [local irreducible] Qb Zl Wt
def Q0m:List (List (Nat×St)):=[[(0,.xd 36 2 2),(0,.m 39 6),(0,.m 40 8),(0,.xi 41 1 39 40),(0,.xl 42 41),(2,.d 37 (.call (.func 102) #[(.t 36)])),(0,.d 38 (.part1 1 (.t 37))),(0,.xi 43 4 38 42),(2,.xd 44 4 43),(2,.d 9 (.alloc 49 #[(.string ⟨#[]⟩),(.int .i64 0),(.slice none 0 0),(.slice none 0 0)]))],
 [(0,.xd 36 2 2),(0,.m 39 6),(0,.m 40 8),(0,.xi 41 1 39 40),(0,.xl 42 41),(2,.d 37 (.call (.func 102) #[(.t 36)])),(0,.d 38 (.part1 1 (.t 37))),(0,.xi 43 4 38 42),(2,.d 9 (.alloc 49 #[(.string ⟨#[]⟩),(.int .i64 0),(.slice none 0 0),(.slice none 0 0)])),(2,.xd 44 4 43)],
 [(0,.xd 36 2 2),(0,.m 39 6),(0,.m 40 8),(0,.xi 41 1 39 40),(0,.xl 42 41),(2,.d 9 (.alloc 49 #[(.string ⟨#[]⟩),(.int .i64 0),(.slice none 0 0),(.slice none 0 0)])),(2,.d 37 (.call (.func 102) #[(.t 36)])),(0,.d 38 (.part1 1 (.t 37))),(0,.xi 43 4 38 42),(2,.xd 44 4 43)]]
def Zp5:List St:=[⟨.st 4 (.t 9) (.t 44),none,none,none⟩]
def Zqk:List St:=[.xv 8 0]
def Zql:List St:=[.xo 69 1 5,.xl 70 69,.xd 71 4 9,.d 72 (.bsl 49 1 #[(.string ⟨#[]⟩),(.int .i64 0),(.slice none 0 0),(.slice none 0 0)] [(0,4,(.t 71))]),.xz 73 70 72 23,.xo 74 1 5,⟨.st 1 (.t 74) (.t 73),none,none,none⟩]
abbrev Qf7:Array Value:=#[.string ⟨#[]⟩,.int .i64 0,.slice none 0 0,.slice none 0 0]
set_option maxHeartbeats 8000000 in
def Zqn(h:BH)(b:Bk)(hb:Zq U.frz h b)(ab:b.Ok)(oa:Option Addr)(L oc:Nat)(out:List Int)(hO:Z5 U.frz oa L out)(dj:L<2^60) :
  Qb S 91 #[h.v,.slice oa L oc] (λ v U'=>(∃Q:BH,v=Q.v/\Zq U'.frz Q (b.wo λ k=>out.contains (k:Int)))/\U.le U') U:=by
 have e6:=hb.cs.1;have e7:=ab.nc;have dw:=b.A_length;have hA:=ab.low;obtain⟨ρ,ev,hρ⟩:=Zrc hA ab.lo
 have cm:∀i,(Je b.A i).length<=5:=λ i=>by
  unfold Je Bk.A;rw[getD_eq_getElem?_getD,getElem?_map];cases hi:b.cs[i]? with
  |none=>simp
  |some c=>simpa using(ab.asc (mem_of_getElem? hi)).1
 have bs:=λ(U':Qa T)=>Znq (S:=S) h b ab ρ (λ i hi k hk=>⟨by have:=hA i O1 k hk;omega,hρ i O1 k hk⟩) out oa L oc dj (b.cs.length+1) (U:=U');obtain⟨o,ho⟩:∃o,o=λ k:Nat=>out.contains (k:Int):=⟨_,rfl⟩;have ej:∀i:Nat,out.contains (i:Int)=o i:=λ i=>by rw[ho]
 rw[<- ho]at bs ⊢
 have dt:Qb S 91 #[h.v,.slice oa L oc] (λ v U'=>∃(Q:BH)(rows:List (List Value))(A Y:List Qx),v=Q.v/\Qdh U' rows (b.wo o).cs/\Jw 49 4 (.slice Q.ca Q.cl Q.cc) rows.flatten A/\Q5 U'.frz Q.ra Q.rl 1 b.rs (λ s vs=>vs=[.string s])/\Q.rl<2^60/\U'.M.Perm (A++(Y++U.M))/\(∀x o,U.I x=some o->U'.I x=some o)/\U'.tok=U.tok) U:=by
  refine Qb.of (args:=[_,_]) Zqf Qf S1 ?_
  repeat refine⟨rfl,?_⟩
  conv=>whnf
  intro B U1 a7 hB;have hB:Zi U1 B #[.slice h.ra h.rl h.rc,.slice h.ca h.cl h.cc]:=hB;have b8:=hb.lg a7.lg.frz2;have cz:=hO.lg a7.lg.frz2
  conv=>whnf
  intro b4 eb;refine⟨_,.refl _,?_⟩;have dg:=Z4 (U:=U1) b4 (.cells #[.slice none 0 0,.slice none 0 0] 25);refine⟨_,⟨rfl,(hB.lg dg).rd⟩,?_⟩;refine⟨Qlg.any,(Q0o (S:=S) (U:=U1.put b4 (.cells #[.slice none 0 0,.slice none 0 0] 25)) h b (b8.lg dg.frz2) ab.sml).mono ?_⟩;rintro _ U2⟨⟨E,rfl,c5⟩,am⟩-
  conv=>whnf
  intro b5 ed;refine⟨_,.refl _,rfl,HR (vs:=[.slice E.ra E.rl E.rc,.slice E.ca E.cl E.cc]) rfl (by simp[Value.single]) ?_⟩;refine⟨rfl,WS (i:=1) (v:=.slice none 0 0) [] rfl (by show 1<2;omega) rfl λ U3 bi bm ah=>?_⟩;generalize c0:(.obj b4 (.cells #[.slice none 0 0,.slice none 0 0] 25 (0,0))::U.M:List Qx)=Y4
  have ah:U3.M=.obj b5 (.cells [.slice E.ra E.rl E.rc,.slice none 0 0].toArray 25 (0,0))::Y4:=by
   rw[ah,<- c0];show _::U2.M=_;rw[am.own];show _::_::U1.M=_;rw[a7.own];rfl
  have bv:U1.frz.lg U3.frz:=⟨λ x o O=>by show U3.I x=_;rw[bi];exact am.imm x o O,⟨[],rfl⟩,by show U3.tok=_;rw[bm];exact am.tok⟩;have de:U2.frz.lg U3.frz:=⟨λ x o O=>by show U3.I x=_;rw[bi];exact O,⟨[],rfl⟩,by show U3.tok=_;rw[bm];rfl⟩;clear ed eb
  refine⟨Nat×Value,λ y=>[(1,.slice oa L oc),(2,.pointer (some ⟨B,0,none⟩)),(4,.pointer (some ⟨b4,0,none⟩)),(5,.pointer (some ⟨b5,0,none⟩)),(6,y.2),(7,.int .i64 y.1)],
   λ y U'=>U3.frz.lg U'/\y.1<=h.cl/\∃K:List Qx,Jw 3 1 y.2 ((Qae (Bk.kpt o y.1)).map λ n=>.int .i64 n) K/\U'.M=K++U3.M,λ y=>h.cl-y.1,(0,.slice none 0 0),T1,⟨Qp,O1,[],.nil,rfl⟩,?_⟩
  rintro⟨i,v⟩f U4⟨au,hi,K,hK,a4⟩;simp only at hi hK a4;obtain⟨sa,sl,sc,rfl,en⟩:=hK.src;have bk:Zu ((i:Int)+1):=I1
  have bb:U1.frz.lg U4:=⟨λ x o O=>au.imm x o (bv.imm x o O),⟨_,(append_nil _).symm⟩,au.tok.trans bv.tok⟩;have dx:=hB.imI bb.imm;have eg:=Bk.kpt_len (out:=o) i;refine⟨_,dx.sees3 (o:=1) rfl,?_⟩
  repeat refine⟨rfl,?_⟩
  conv=>whnf
  apply Qe<;>intro hc
  .have cf:i<h.cl:=by simpa using hc
   refine⟨Qoa.any,(Qbj oa L oc out (cz.lg bb) dj (i:Int)).go λ _=>?_⟩;rw[ej];cases H:o i with
   |false=>
    conv=>whnf
    intro bn Z;refine Zk Z λ X b7 Z=>?_;have Z:Zi X bn #[.int .i64 i]:=Z
    conv=>whnf
    refine Ws (v:=.slice sa sl sc) (cs:=(Qae (Bk.kpt o i)).map λ n=>.int .i64 n) (new:=[.int .i64 (i:Int)]) (M₀:=U3.M) Hf rfl rfl (by rw[b7.own,a4];exact hK _) (.inr ⟨_,rfl,Z.rd⟩) rfl (by simp[Value.single]) S3 λ v' M' a8 _=>?_;obtain⟨K',d3,cr⟩:=a8.split;obtain⟨ta,tl,tc,rfl,-⟩:=cr.src;refine⟨bk,?_⟩
    conv=>whnf
    exact⟨rfl,(i+1,.slice ta tl tc),T1,⟨⟨λ x o O=>b7.imm x o (au.imm x o O),⟨_,(append_nil _).symm⟩,b7.tok.trans au.tok⟩,by show i+1<=h.cl;omega,K',by show Jw 3 1 _ ((Qae (Bk.kpt o (i+1))).map _) _;rw[Bk.kpt_in H,Qae,map_append,map_append];exact cr,d3⟩,L1⟩
   |true=>
    refine⟨bk,?_⟩
    conv=>whnf
    exact⟨rfl,(i+1,.slice sa sl sc),T1,⟨au,by show i+1<=h.cl;omega,K,by show Jw 3 1 _ ((Qae (Bk.kpt o (i+1))).map _) _;rw[Bk.kpt_out H];exact hK,a4⟩,L1⟩
  have ce:i=b.cs.length:=by simp at hc;omega
  rw[ce,Bk.kpt_all]at hK;rw[ce,Bk.kpt_all]at eg
  conv=>whnf
  intro ci D;refine Zp8 (mu:=[]) (dets:=[]) (l:=Zqk) D Qf K1 λ hw=>?_;obtain⟨τ,k1,k2,k3,ka,kn,kc,e1,bl,eh,dc⟩:=hK.freeze (Ko hw) (by rw[a4]);cases e1;have bl:(b.kept o).length=sl:=by simpa using bl
  have cu:=Vf eh dc;rw[length_map,bl]at cu;have dd:U1.frz.lg τ.frz:=bb.frz2.trans k3;refine⟨τ,k1,?_⟩;clear hK a4 en
  conv=>whnf
  intro a' N;refine⟨by rw[N.size,D.size],_,N.get,?_⟩;rw[N.ds];clear N D
  refine⟨Nat×Value,λ y=>[(1,.slice oa L oc),(2,.pointer (some ⟨B,0,none⟩)),(4,.pointer (some ⟨b4,0,none⟩)),(5,.pointer (some ⟨b5,0,none⟩)),(6,.slice sa sl sc),(8,.int .i64 y.1)],
   λ y U'=>τ.frz.lg U'/\y.1<=sl/\∃(rows:List (List Value))(A:List Qx),Qdh U' rows ((b.wo o).cs.take y.1)/\Jw 49 4 y.2 rows.flatten A/\U'.M=A++.obj b5 (.cells [.slice E.ra E.rl E.rc,y.2].toArray 25 (0,0))::Y4,
   λ y=>sl-y.1,(0,.slice none 0 0),T1,⟨Qp,O1,[],[],by rw[take_zero];exact .nil,.nil,k2.trans ah⟩,?_⟩
  rintro⟨i,v⟩f X⟨aq,hi,rows,A,J,ao,hM⟩;simp only at hi J ao hM;obtain⟨va,vl,vc,rfl,e9⟩:=ao.src;have bk:Zu ((i:Int)+1):=I1
  have ap:U1.frz.lg X.frz:=dd.trans aq.frz2;have co:Zi X B #[.slice h.ra h.rl h.rc,.slice h.ca h.cl h.cc]:=hB.imI ap.imm;have d8:=b8.lg ap;have ct:=cu.lg aq.frz2;have fa:=b.wo_nc o;have ey:=b.wo_nc o
  repeat refine⟨rfl,?_⟩
  conv=>whnf
  apply Qe<;>intro hc
  rotate_left
  .have ce:i=sl:=by simp at hc;omega
   rw[take_of_length_le O1]at J;subst c0;have d4:X.M=(A++[.obj b5 (.cells [.slice E.ra E.rl E.rc,.slice va vl vc].toArray 25 (0,0))])++.obj b4 (.cells #[.slice none 0 0,.slice none 0 0] 25 (0,0))::U.M:=by rw[hM];simp
   refine⟨_,⟨rfl,Za A hM⟩,rfl,Wh (vs:=[.slice E.ra E.rl E.rc,.slice va vl vc]) _ d4 rfl (by simp[Value.single]) λ U6 dz ep cw=>?_⟩;have be:X.frz.lg U6.frz:=⟨λ x o O=>by show U6.I x=_;rw[dz];exact O,⟨[],rfl⟩,ep⟩;have bw:=ap.trans be;refine⟨_,⟨rfl,Za _ cw⟩,?_⟩
   conv=>whnf
   exact⟨⟨E.ra,E.rl,E.rc,va,vl,vc⟩,rows,A,[.obj b5 (.cells [.slice E.ra E.rl E.rc,.slice va vl vc].toArray 25 (0,0)),.obj b4 (.cells [.slice E.ra E.rl E.rc,.slice va vl vc].toArray 25 (0,0))],rfl,J.lg be,ao,c5.rs.lg (de.trans (au.frz2.trans (k3.trans (aq.frz2.trans be)))) λ _ _ h=>h,c5.rl,by rw[cw,append_assoc];exact .refl _,λ x o O=>bw.imm x o (a7.imm x o O),bw.tok.trans a7.tok⟩
  have cf:i<sl:=by simpa using hc
  obtain⟨ad,xv,O,ea,ew,el⟩:=ct.at cf
  obtain⟨x,dr,rfl⟩:∃x:Nat,(b.kept o)[i]?=some x/\(x:Int)=xv:=by
   rw[getElem?_map]at O;cases hk:(b.kept o)[i]? with
   |none=>rw[hk]at O;cases O
   |some x=>rw[hk]at O;exact⟨x,rfl,Option.some.inj O⟩
  obtain⟨es,fc⟩:=Bk.kpt_lt (show x∈Bk.kpt o b.cs.length from mem_of_getElem? dr);have fb:x<h.cl:=O1
  obtain⟨c,bj⟩:∃c,b.cs[x]?=some c:=⟨_,getElem?_eq_getElem es⟩;have c6:=Bk.cas_at bj;have dq:=Bk.wo_at dr;rw[c6]at dq;have dh:=mem_of_getElem? bj;have br:=Bk.aft1_at bj
  have d7:Qae (Je b.A x)=c.af:=by
   rw[br];show(c.af.map Int.toNat).map (λ(k:Nat)=>(k:Int))=c.af;rw[map_map];exact(map_congr_left λ n hn=>by have:=ab.af c dh n hn;show((n.toNat:Nat):Int)=n;omega).trans (map_id _)
  have di:=cm x;have ch:=Qek J.row;have dm:rows.length=i:=by rw[J.1,length_take];omega
  have V:∀(w:Qa T)(h2:BH),Zq w.frz h2 b->∃P g d t m j C,h2.ca=some P/\x<h2.cl/\Jn w (P.add (x*4)) [.string c.nm,.int .i64 c.ag,.slice g d t,.slice m j C]/\J3 w.frz g d c.gs/\d<2^60/\Z5 w.frz m j c.af/\j<2^60:=λ w h2 ai=>by
   have e2:=ai.cs.1;obtain⟨P,c2,g,d,t,m,j,C,an,G,-,dk,ef,db,d6,c3,-⟩:=ai.case (show x<h2.cl by omega);obtain rfl:c=c2:=Option.some.inj (bj.symm.trans an);exact⟨P,g,d,t,m,j,C,G,O1,dk.lg Qp,ef,db,d6,c3⟩
  have bg:∀U':Qa T,X.frz.lg U'.frz->Qb S 102 #[h.v] (λ v U''=>(∃Q:BH,v=Q.v/\Zq U''.frz Q b)/\U'.le U'') U':=λ U' hl=>Q0o h b (d8.lg hl) ab.sml
  let Rc:Option Addr->Nat->Option Addr->Nat->Qa T->Prop:=λ g d m j w=>J3 w.frz g d c.gs/\d<2^60/\Z5 w.frz m j c.af/\j<2^60
  have d5:∀{g d m j}{w w':Qa T},Rc g d m j w->w.frz.lg w'.frz->Rc g d m j w':=λ H k=>⟨H.1.lg k,H.2.1,H.2.2.1.lg k,H.2.2.2⟩
  conv=>whnf
  intro ci D
  refine SQ (mu:=[1009,1020]) (ops:=Pl Tryz.f91 12) (id:=12) D [1,8,9] [[0,3,4,5,6,1,2,7,8,9],[0,3,4,5,6,1,2,7,9,8],[0,3,4,5,6,9,1,2,7,8]] [10] Q0m Zp5 Qf K1 K1 K1 K1 K1
   (λ f' cj U'=>cj=[]/\∃(u:Nat)(g:Option Addr)(d t:Nat)(m:Option Addr)(j C:Nat),XF f' [(1,.slice oa L oc),(2,.pointer (some ⟨B,0,none⟩)),(4,.pointer (some ⟨b4,0,none⟩)),(5,.pointer (some ⟨b5,0,none⟩)),(6,.slice sa sl sc),(8,.int .i64 i),(9,.pointer (some ⟨u,0,none⟩)),(44,.agg #[.string c.nm,.int .i64 c.ag,.slice g d t,.slice m j C])]/\HqV X (Rc g d m j) u 49 Qf7 U') ?_ ?_
  .intro l hl;simp only[Q0m,mem_cons,not_mem_nil,or_false]at hl;rcases hl with rfl|rfl|rfl
   all_goals
    refine⟨_,⟨rfl,(show Zi X.frz B _ from co).rd⟩,?_⟩;refine⟨ad,i,⟨ea,rfl,cf⟩,_,el,?_⟩
    conv=>whnf
   .refine⟨λ v U'=>X.le U'/\∃Q:BH,v=Q.v/\Zq U'.frz Q b,λ v x1 x2⟨q1,h2,e,W⟩z=>⟨q1.trans z,h2,e,W.lg z.lg.frz2⟩,λ v U' H=>Qp.trans H.1.lg,λ U' hC=>?_,λ v hv=>?_⟩
    .conv=>whnf
     exact⟨Qlg.any,(bg U' hC.lg.frz2).mono λ v U''⟨q1,W⟩_=>⟨U'',.refl _,hC.trans W,q1⟩⟩
    obtain⟨_,-,h2,rfl,ai⟩:=hv;obtain⟨P,-,-,-,-,-,-,G,an,-⟩:=V _ _ ai;refine⟨P,x,⟨G,rfl,an⟩,λ v U'=>X.le U'/\∃g d t m j C,v=.agg #[.string c.nm,.int .i64 c.ag,.slice g d t,.slice m j C]/\Rc g d m j U',λ v x1 x2⟨q1,g,d,t,m,j,C,e,W⟩z=>⟨q1.trans z,g,d,t,m,j,C,e,d5 W z.lg.frz2⟩,λ v U' H=>Qp.trans H.1.lg,λ U'⟨hC,h3,e3,cb⟩=>?_,λ v hv=>?_⟩
    .obtain rfl:=BH.inj e3;obtain⟨ax,g,d,t,m,j,C,aj,-,ak,r1,r2,r3,r4⟩:=V _ _ cb;obtain rfl:P=ax:=Option.some.inj (G.symm.trans aj)
     conv=>whnf
     exact⟨_,⟨rfl,ak⟩,_,.refl _,hC,g,d,t,m,j,C,rfl,r1,r2,r3,r4⟩
    obtain⟨_,-,g,d,t,m,j,C,rfl,-⟩:=hv;refine⟨λ v U'=>∃u,v=.pointer (some ⟨u,0,none⟩)/\HqV X (Rc g d m j) u 49 Qf7 U',λ v x1 x2⟨u,e,H⟩z=>⟨u,e,H.le z⟩,λ v U'⟨u,e,H⟩=>H.frz,λ U'⟨hC,a0,a3,a2,av,ay,aw,e,hR⟩=>?_,λ v hv=>?_⟩
    .obtain⟨⟨rfl,rfl,rfl⟩,rfl,rfl,rfl⟩:(g=a0/\d=a3/\t=a2)/\m=av/\j=ay/\C=aw:=by simpa using e
     conv=>whnf
     intro u ba;exact⟨_,.refl _,_,.refl _,u,rfl,U',hC,hR,.made (.refl _) ba⟩
    obtain⟨_,u,rfl,-⟩:=hv
    conv=>whnf
    rintro U'⟨az,e,hq⟩;obtain rfl:u=az:=by simpa using e
    exact⟨rfl,u,g,d,t,m,j,C,T1,hq⟩
   .refine⟨λ v U'=>X.le U'/\∃Q:BH,v=Q.v/\Zq U'.frz Q b,λ v x1 x2⟨q1,h2,e,W⟩z=>⟨q1.trans z,h2,e,W.lg z.lg.frz2⟩,λ v U' H=>Qp.trans H.1.lg,λ U' hC=>?_,λ v hv=>?_⟩
    .conv=>whnf
     exact⟨Qlg.any,(bg U' hC.lg.frz2).mono λ v U''⟨q1,W⟩_=>⟨U'',.refl _,hC.trans W,q1⟩⟩
    obtain⟨_,-,h2,rfl,ai⟩:=hv;obtain⟨P,-,-,-,-,-,-,G,an,-⟩:=V _ _ ai;refine⟨P,x,⟨G,rfl,an⟩,λ v U'=>∃u,v=.pointer (some ⟨u,0,none⟩)/\HqV X (λ w=>Zq w.frz h2 b) u 49 Qf7 U',λ v x1 x2⟨u,e,H⟩z=>⟨u,e,H.le z⟩,λ v U'⟨u,e,H⟩=>H.frz,λ U'⟨hC,h3,e3,cb⟩=>?_,λ v hv=>?_⟩
    .obtain rfl:=BH.inj e3
     conv=>whnf
     intro u ba;exact⟨_,.refl _,_,.refl _,u,rfl,U',hC,cb,.made (.refl _) ba⟩
    obtain⟨_,u,rfl,-⟩:=hv;refine⟨λ v U'=>∃g d t m j C,v=.agg #[.string c.nm,.int .i64 c.ag,.slice g d t,.slice m j C]/\HqV X (Rc g d m j) u 49 Qf7 U',λ v x1 x2⟨g,d,t,m,j,C,e,W⟩z=>⟨g,d,t,m,j,C,e,W.le z⟩,λ v U'⟨g,d,t,m,j,C,e,W⟩=>W.frz,λ U'⟨az,e,Ud,q1,W,q3⟩=>?_,λ v hv=>?_⟩
    .obtain rfl:u=az:=by simpa using e
     obtain⟨ax,g,d,t,m,j,C,aj,-,ak,r1⟩:=V _ _ W;obtain rfl:P=ax:=Option.some.inj (G.symm.trans aj);have H:Ud.lg U':=⟨q3.imm,⟨[_],q3.own⟩,q3.tok⟩
     conv=>whnf
     exact⟨_,⟨rfl,ak.lg H⟩,_,.refl _,g,d,t,m,j,C,rfl,Ud,q1,r1,q3⟩
    obtain⟨_,g,d,t,m,j,C,rfl,-⟩:=hv
    conv=>whnf
    rintro U'⟨a0,a3,a2,av,ay,aw,e,hq⟩;obtain⟨⟨rfl,rfl,rfl⟩,rfl,rfl,rfl⟩:(g=a0/\d=a3/\t=a2)/\m=av/\j=ay/\C=aw:=by simpa using e
    exact⟨rfl,u,g,d,t,m,j,C,T1,hq⟩
   .refine⟨λ v U'=>∃u,v=.pointer (some ⟨u,0,none⟩)/\Hlr X u 49 Qf7 U',λ v x1 x2⟨u,e,H⟩z=>⟨u,e,H.le z⟩,λ v U'⟨u,e,H⟩=>H.frz1,λ U' hC=>?_,λ v hv=>?_⟩
    .conv=>whnf
     intro u ba;exact⟨_,.refl _,_,.refl _,u,rfl,.made hC ba⟩
    obtain⟨_,u,rfl,-⟩:=hv;refine⟨λ v U'=>∃Q:BH,v=Q.v/\HqV X (λ w=>Zq w.frz Q b) u 49 Qf7 U',λ v x1 x2⟨h2,e,W⟩z=>⟨h2,e,W.le z⟩,λ v U'⟨h2,e,W⟩=>W.frz,λ U'⟨az,e,hH⟩=>?_,λ v hv=>?_⟩
    .obtain rfl:u=az:=by simpa using e
     conv=>whnf
     exact⟨Qlg.any,(bg U' hH.frz2).mono λ v U''⟨⟨Q,e',q1⟩,W⟩hs=>⟨U'',.refl _,Q,e',.of hH W hs (q1.lg ⟨λ _ _ h=>h,⟨[],rfl⟩,rfl⟩)⟩⟩
    obtain⟨_,h2,rfl,_,-,ai,-⟩:=hv;obtain⟨P,-,-,-,-,-,-,G,an,-⟩:=V _ _ ai;refine⟨P,x,⟨G,rfl,an⟩,λ v U'=>∃g d t m j C,v=.agg #[.string c.nm,.int .i64 c.ag,.slice g d t,.slice m j C]/\HqV X (Rc g d m j) u 49 Qf7 U',λ v x1 x2⟨g,d,t,m,j,C,e,W⟩z=>⟨g,d,t,m,j,C,e,W.le z⟩,λ v U'⟨g,d,t,m,j,C,e,W⟩=>W.frz,λ U'⟨h3,e3,Ud,q1,W,q3⟩=>?_,λ v hv=>?_⟩
    .obtain rfl:=BH.inj e3;obtain⟨ax,g,d,t,m,j,C,aj,-,ak,r1⟩:=V _ _ W;obtain rfl:P=ax:=Option.some.inj (G.symm.trans aj);have H:Ud.lg U':=⟨q3.imm,⟨[_],q3.own⟩,q3.tok⟩
     conv=>whnf
     exact⟨_,⟨rfl,ak.lg H⟩,_,.refl _,g,d,t,m,j,C,rfl,Ud,q1,r1,q3⟩
    obtain⟨_,g,d,t,m,j,C,rfl,-⟩:=hv
    conv=>whnf
    rintro U'⟨a0,a3,a2,av,ay,aw,e,hq⟩;obtain⟨⟨rfl,rfl,rfl⟩,rfl,rfl,rfl⟩:(g=a0/\d=a3/\t=a2)/\m=av/\j=ay/\C=aw:=by simpa using e
    exact⟨rfl,u,g,d,t,m,j,C,T1,hq⟩
  rintro f' cj U6⟨rfl,u,g,d,t,m,j,C,c7,Ud,q1,⟨r1,r2,r3,r4⟩,q3⟩;rw[<- c7.ovr];clear c7;refine⟨rfl,Wh (vs:=[.string c.nm,.int .i64 c.ag,.slice g d t,.slice m j C]) [] q3.own rfl (by simp[Value.single]) λ U7 d0 eq bp=>?_⟩;have bf:Ud.frz.lg U7.frz:=⟨λ x o O=>by show U7.I x=_;rw[d0];exact q3.imm x o O,⟨[],rfl⟩,by show U7.tok=_;rw[eq];exact q3.tok⟩;have bz:X.frz.lg U7.frz:=q1.lg.frz2.trans bf;have bc:=ap.trans bz;have c4:j=(Je b.A x).length:=by rw[<- r3.1,br,length_map]
  subst c4
  conv=>whnf
  intro a' N;refine⟨by rw[N.size,D.size],_,N.get,?_⟩;rw[N.ds];clear N D;refine⟨_,⟨rfl,(show Zi U7 B #[.slice h.ra h.rl h.rc,.slice h.ca h.cl h.cc] from hB.imI bc.imm).rd⟩,?_⟩;refine⟨_,(Za [] bp).cell (i:=3) rfl,Zbz.any,(bs U7 (Je b.A x) O1 di (b8.lg bc) (cz.lg bc) (λ k hk=>⟨by have:=hA x O1 k hk;omega,by have:=ev k;omega⟩) m C (by rw[d7];exact r3.lg bf)).mono ?_⟩;rintro _ U8⟨⟨ck,ec,rfl,hE⟩,h8⟩-
  have bo:(Qae (Qdg b.A o (b.cs.length+1) (Je b.A x))).length<2^60:=by
   have h1:=Qqa cm o (b.cs.length+1) (Je b.A x);have h2:5^(b.cs.length+1)<=5^6:=Nat.pow_le_pow_right O1 O1;have h3:=Nat.mul_le_mul di h2;rw[length_map];omega
  have cp:∀q y:Nat,(b.kept o)[q]?=some y->(Qae (Qdg b.A o (b.cs.length+1) (Je b.A x))).contains (y:Int)=QP b.A o b.cs.length x ((b.kept o).getD q 0):=λ q y hy=>by
   have e:(b.kept o).getD q 0=y:=by simp[getD_eq_getElem?_getD,hy]
   have eu:=(Bk.kpt_lt (show y∈Bk.kpt o b.cs.length from mem_of_getElem? hy)).2;have:=Zr0 (A:=b.A) (out:=o) hA ab.lo (i:=x) (k:=y) (s:=b.cs.length) O1 O1;rw[e,Bool.eq_iff_iff];rw[dw]at this;simp only[contains_eq_mem,decide_eq_true_eq,mem_map];constructor
   .rintro⟨k,hk,e2⟩;obtain rfl:k=y:=Int.ofNat.inj e2;exact(this.1 hk).2
   .exact λ hb=>⟨y,this.2 ⟨eu,hb⟩,rfl⟩
  generalize Qae (Qdg b.A o (b.cs.length+1) (Je b.A x))=EL at hE bo cp ⊢;refine⟨rfl,WS (i:=3) (v:=.slice none 0 0) [] (h8.own.trans bp) (by show 3<4;omega) rfl λ U9 d1 er a6=>?_⟩;have a6:U9.M=.obj u (.cells [.string c.nm,.int .i64 c.ag,.slice g d t,.slice none 0 0].toArray 49 (0,0))::X.M:=by rw[a6,<- q1.own];rfl
  have b3:U8.frz.lg U9.frz:=⟨λ x o O=>by show U9.I x=_;rw[d1];exact O,⟨[],rfl⟩,by show U9.tok=_;rw[er];rfl⟩;have b2:U7.frz.lg U9.frz:=h8.lg.frz2.trans b3
  refine⟨Nat×Value,λ y=>[(1,.slice oa L oc),(2,.pointer (some ⟨B,0,none⟩)),(4,.pointer (some ⟨b4,0,none⟩)),(5,.pointer (some ⟨b5,0,none⟩)),(6,.slice sa sl sc),(8,.int .i64 i),(9,.pointer (some ⟨u,0,none⟩)),(10,.slice ck EL.length ec),(11,.int .i64 y.1)],
   λ y U'=>U9.frz.lg U'/\y.1<=sl/\∃F:List Qx,Jw 3 1 y.2 ((Qae (b.flt o x y.1)).map λ n=>.int .i64 n) F/\U'.M=F++.obj u (.cells [.string c.nm,.int .i64 c.ag,.slice g d t,y.2].toArray 49 (0,0))::X.M,λ y=>sl-y.1,(0,.slice none 0 0),T1,⟨Qp,O1,[],.nil,a6⟩,?_⟩
  rintro⟨k,v⟩f τ₁⟨ae,hk,F,hF,a5⟩;simp only at hk hF a5;obtain⟨ua,ul,uc,rfl,e8⟩:=hF.src;have bu:Zu ((k:Int)+1):=I1
  have b0:X.frz.lg τ₁.frz:=bz.trans (b2.trans ae.frz2);have ee:(b.flt o x k).length<=k:=Nat.le_trans (length_filter_le _ _) S1
  repeat refine⟨rfl,?_⟩
  conv=>whnf
  apply Qe<;>intro hc
  .have hlk:k<sl:=by simpa using hc
   obtain⟨du,yv,hy,dv,ex,em⟩:=(ct.lg b0).at hlk
   obtain⟨y,et,rfl⟩:∃y:Nat,(b.kept o)[k]?=some y/\(y:Int)=yv:=by
    rw[getElem?_map]at hy;cases hk:(b.kept o)[k]? with
    |none=>rw[hk]at hy;cases hy
    |some x=>rw[hk]at hy;exact⟨x,rfl,Option.some.inj hy⟩
   refine⟨du,k,⟨dv,rfl,hlk⟩,_,em.lg Qp,Qoa.any,(Qbj ck EL.length ec EL (hE.lg (b3.trans ae.frz2)|>.lg Qp) bo (y:Int)).go λ _=>?_⟩;have ar:=b.flt_succ o x k;rw[cp k y et];cases H:QP b.A o b.cs.length x ((b.kept o).getD k 0)with
   |true=>
    rw[H,if_pos rfl]at ar;refine⟨_,(Za F a5).cell (i:=3) rfl,?_⟩
    conv=>whnf
    intro bn Z;refine Zk Z λ τ₂ am Z=>?_;have Z:Zi τ₂ bn #[.int .i64 k]:=Z
    conv=>whnf
    refine Ws (v:=.slice ua ul uc) (cs:=(Qae (b.flt o x k)).map λ n=>.int .i64 n) (new:=[.int .i64 (k:Int)]) (M₀:=.obj u (.cells [.string c.nm,.int .i64 c.ag,.slice g d t,.slice ua ul uc].toArray 49 (0,0))::X.M) Hf rfl rfl (by rw[am.own,a5];exact hF _) (.inr ⟨_,rfl,Z.rd⟩) rfl (by simp[Value.single]) S3 λ v' M' a8 _=>?_;obtain⟨F',cx,cq⟩:=a8.split;obtain⟨ta,tl,tc,rfl,-⟩:=cq.src;refine⟨rfl,WS (i:=3) (v:=.slice ta tl tc) F' cx (by show 3<4;omega) rfl λ τ₃ bi bm ah=>?_⟩;refine⟨bu,?_⟩
    conv=>whnf
    exact⟨rfl,(k+1,.slice ta tl tc),T1,⟨⟨λ x o O=>by rw[bi];exact am.imm x o (ae.imm x o O),⟨_,(append_nil _).symm⟩,by rw[bm];exact am.tok.trans ae.tok⟩,by show k+1<=sl;omega,F',by show Jw 3 1 _ ((Qae (b.flt o x (k+1))).map _) _;rw[ar,Qae,map_append,map_append];exact cq,ah⟩,L1⟩
   |false=>
    rw[H,if_neg S1,append_nil]at ar;refine⟨bu,?_⟩
    conv=>whnf
    exact⟨rfl,(k+1,.slice ua ul uc),T1,⟨ae,by show k+1<=sl;omega,F,by show Jw 3 1 _ ((Qae (b.flt o x (k+1))).map _) _;rw[ar];exact hF,a5⟩,L1⟩
  have da:k=sl:=by simp at hc;omega
  rw[da]at hF ee
  conv=>whnf
  intro ci D;refine Zp8 (mu:=[]) (dets:=[]) (l:=Zql) D Qf K1 λ hw=>?_;obtain⟨τ₂,m1,m2,m3,e0,e5,e4,e2,bt,c8,c9⟩:=hF.freeze (Ko hw) (R:=[.obj u (.cells [.string c.nm,.int .i64 c.ag,.slice g d t,.slice ua ul uc].toArray 49 (0,0))]++X.M) (by rw[a5];exact .refl _);cases e2;obtain⟨τ₃,n1,n2,n3,x1,x2,x3,e3,-,d9,-⟩:=(Jw.ofBlk (e:=49) (n:=4) (b:=u) (len:=1) (cap:=1) (cs:=[.string c.nm,.int .i64 c.ag,.slice g d t,.slice ua ul uc]) (c:=[Value.string c.nm,.int .i64 c.ag,.slice g d t,.slice ua ul uc].toArray) rfl (Nat.le_refl _) rfl (λ i x O=>by simpa using O)).freeze (Ko (LX hw m1)) (by rw[m2]);cases e3
  have dl:Jn τ₃.frz ⟨u,0,none⟩ [.string c.nm,.int .i64 c.ag,.slice g d t,.slice ua ul uc]:=by
   rcases d9 with⟨h,_⟩|⟨ad,e,h⟩
   .cases h
   .cases e;exact h
  have bx:X.frz.lg τ₃.frz:=b0.trans (m3.trans n3);have df:Ud.frz.lg τ₃.frz:=bf.trans (b2.trans (ae.frz2.trans (m3.trans n3)));simp at bt
  have cd:HT τ₃.frz { c with af:=Qae (b.flt o x (b.kept o).length) } [.string c.nm,.int .i64 c.ag,.slice g d t,.slice ua ul uc]:=by
   refine⟨_,_,_,_,_,_,rfl,r1.lg df,r2,?_,O1⟩;have:=(Vf c8 c9).lg n3;rw[bl]
   rwa [length_map,bt]at this
  have cv:τ₃.M=A++.obj b5 (.cells [.slice E.ra E.rl E.rc,.slice va vl vc].toArray 25 (0,0))::Y4:=n2.trans hM;refine⟨τ₃,m1.trans n1,_,(Za A cv).cell (i:=1) rfl,_,⟨rfl,dl.lg Qp⟩,?_⟩
  conv=>whnf
  intro bq a9;refine Zk a9 λ τ₄ b6 a9=>?_;have a9:Zi τ₄ bq #[.string c.nm,.int .i64 c.ag,.slice g d t,.slice ua ul uc]:=a9
  conv=>whnf
  refine Ws (v:=.slice va vl vc) (cs:=rows.flatten) (new:=[.string c.nm,.int .i64 c.ag,.slice g d t,.slice ua ul uc]) (M₀:=.obj b5 (.cells [.slice E.ra E.rl E.rc,.slice va vl vc].toArray 25 (0,0))::Y4) Mf rfl rfl (by rw[b6.own,cv];exact ao _) (.inr ⟨_,rfl,a9.rd⟩) rfl (by simp[Value.single]) (by rw[ch,dm];simp;omega) λ v' M' a8 _=>?_;obtain⟨A',d2,bh⟩:=a8.split;obtain⟨ta,tl,tc,rfl,-⟩:=bh.src;refine⟨rfl,WS (i:=1) (v:=.slice ta tl tc) A' d2 (by show 1<2;omega) rfl λ τ₅ dy eo cy=>?_⟩;have bd:τ₃.frz.lg τ₅.frz:=⟨λ x o O=>by show τ₅.I x=_;rw[dy];exact b6.imm x o O,⟨[],rfl⟩,by show τ₅.tok=_;rw[eo];exact b6.tok⟩;have b1:τ.frz.lg τ₅.frz:=aq.frz2.trans (bx.trans bd)
  conv=>whnf
  intro a' N;refine⟨by rw[N.size,D.size],_,N.get,?_⟩;rw[N.ds];clear N D;refine⟨bk,rfl,(i+1,.slice ta tl tc),T1,⟨⟨b1.imm,⟨_,(append_nil _).symm⟩,b1.tok⟩,by show i+1<=sl;omega,rows++[[.string c.nm,.int .i64 c.ag,.slice g d t,.slice ua ul uc]],A',?_,by simpa using bh,cy⟩,L1⟩;show Qdh τ₅ _ ((b.wo o).cs.take (i+1));rw[Ji dq];exact(J.lg (bx.trans bd)).snoc (cd.lg bd)
 refine dt.okv λ v U' hw⟨Q,rows,A,Y,hv,J,bh,ek,cg,hM,hI,ht⟩=>?_;obtain⟨τ₁,k1,k2,k3,a1,l1,c1,e1,ei,dn,dp⟩:=bh.freeze (Ko hw) hM;cases e1;rw[Qek J.row,J.1]at ei;have ez:=(ab.wo o).nc;refine⟨{ τ₁ with M:=U.M },k1.trans (Z1 (by rw[k2];exact sublist_append_right ..)),⟨Q,hv,⟨ek.lg k3 λ _ _ h=>h,?_,cg,O1,hb.rn,λ c hc=>?_⟩⟩,⟨λ x o O=>k3.imm x o (hI x o O),rfl,k3.tok.trans ht⟩⟩
 .have:=(J.lg k3).rows dn dp;rw[show(b.wo o).cs.length=Q.cl by omega]at this;exact this
 .obtain⟨k,hk,rfl⟩:=mem_map.1 hc;show(b.cas k).nm.size<_;exact hb.cn _ (Bk.cas_mem (mem_range.1 (mem_filter.1 hk).1))
end Go.Proofs
namespace Go.Proofs
open Go.TM
section
variable{T:Type}{S:TM.Sys prog T}{U:Qa T}
attribute [local irreducible] Qb Zl Wt
end
attribute [local irreducible] Qb Zl Wt
end Go.Proofs
namespace Go.TM
def woC(b:Bk)(p:List Int):Bk:=b.wo λ k=>p.contains (k:Int)
def Bk.hgP(b:Bk)(r:Nat)(p:List Int):Bool:=(woC b p).fatR r==b.fatR r
def Bk.oth(b:Bk)(l:List Int):List Int:=Qae (Bk.kpt (λ k=>l.contains (k:Int)) b.cs.length)
def Bk.hgB(b:Bk)(r:Nat)(l:List Int):Bool:=(range ((b.oth l).length+1)).all λ m=>(TM.parts (b.oth l) m).all (b.hgP r)
def Bk.hgB_true{b:Bk}{r:Nat}{l:List Int}(h:∀m,m<(b.oth l).length+1->∀p∈TM.parts (b.oth l) m,b.hgP r p=true):b.hgB r l=true:=
 all_eq_true.2 λ m d=>all_eq_true.2 (h m (mem_range.1 d))
def Bk.hgB_false{b:Bk}{r:Nat}{l:List Int}{m:Nat}{p:List Int}(d:m<(b.oth l).length+1)(f:p∈TM.parts (b.oth l) m)(h:b.hgP r p=false):b.hgB r l=false:=by
 cases e:b.hgB r l with
 |false=>rfl
 |true=>rw[all_eq_true.1 (all_eq_true.1 e m (mem_range.2 d)) p f]at h;cases h
end Go.TM
namespace Go.Proofs
open Go.TM
variable{T:Type}{S:TM.Sys prog T}{U:Qa T}
attribute [local irreducible] Qb Zl Wt
set_option maxHeartbeats 4000000 in
def Zop(h:BH)(b:Bk)(hb:Zq U.frz h b)(J:b.Ok)(r:Nat)(hr:r<h.rl)(la:Option Addr)(lc:Nat)(l:List Int)(hl:Z5 U.frz la l.length l)(aq:l.length<2^60) :
  Qb S 51 #[h.v,.int .i64 r,.slice la l.length lc] (λ v U'=>v=.bool (b.hgB r l)/\U'=U) U:=by
 have bl:=hb.cs.1;have aw:=hb.rs.1;have bd:=J.nc;have ba:∀p,(woC b p).fatesR.length=h.rl:=λ p=>by simp[Bk.fatesR,woC,Bk.wo,aw]
 have a9:∀p,(woC b p).fatesR[r]?=some ((woC b p).fatR r):=λ p=>by simp[Bk.fatesR,woC,Bk.wo,show r<b.rs.length by omega]
 have am:b.fatesR.length=h.rl:=by simp[Bk.fatesR,aw]
 have al:b.fatesR[r]?=some (b.fatR r):=by simp[Bk.fatesR,show r<b.rs.length by omega]
 refine Qb.pure' (Qb.of (args:=[_,_,_]) Zqd Qf S1 ?_)
 repeat refine⟨rfl,?_⟩
 conv=>whnf
 intro B U1 D hB;have hB:Zi U1 B #[.slice h.ra h.rl h.rc,.slice h.ca h.cl h.cc]:=hB;have aj:=hb.lg D.lg.frz2;have ar:=hl.lg D.lg.frz2
 refine⟨Nat×Value,λ y=>[(1,.int .i64 r),(2,.slice la l.length lc),(3,.pointer (some ⟨B,0,none⟩)),(7,y.2),(8,.int .i64 y.1)],
  λ y U'=>U1.frz.lg U'/\y.1<=h.cl/\∃K:List Qx,Jw 3 1 y.2 ((Qae (Bk.kpt (λ k=>l.contains (k:Int)) y.1)).map λ n=>.int .i64 n) K/\U'.M=K++U.M,λ y=>h.cl-y.1,(0,.slice none 0 0),T1,⟨Qp,O1,[],.nil,D.own⟩,?_⟩
 rintro⟨i,v⟩f U4⟨g,hi,K,O,C⟩;simp only at hi O C;obtain⟨sa,sl,sc,rfl,bo⟩:=O.src;have I:Zu ((i:Int)+1):=I1
 have X:=hB.imI g.imm;have ao:=Bk.kpt_len (out:=λ k=>l.contains (k:Int)) i;refine⟨_,X.sees3 (o:=1) rfl,?_⟩
 repeat refine⟨rfl,?_⟩
 conv=>whnf
 apply Qe<;>intro F
 .have ac:i<h.cl:=by simpa using F
  refine⟨Qoa.any,(Qbj la l.length lc l (ar.lg g) aq (i:Int)).go λ _=>?_⟩;cases hh:l.contains (i:Int)with
  |false=>
   conv=>whnf
   intro bn E;refine Zk E λ U5 Y E=>?_;have E:Zi U5 bn #[.int .i64 i]:=E
   conv=>whnf
   refine Ws (v:=.slice sa sl sc) (cs:=(Qae (Bk.kpt (λ k=>l.contains (k:Int)) i)).map λ n=>.int .i64 n) (new:=[.int .i64 (i:Int)]) (M₀:=U.M) Hf rfl rfl (by rw[Y.own,C];exact O _) (.inr ⟨_,rfl,E.rd⟩) rfl (by simp[Value.single]) (by simp only[length_map,length_cons,length_nil];omega) λ v' M' a7 _=>?_;obtain⟨K',a6,ah⟩:=a7.split;obtain⟨ta,tl,tc,rfl,-⟩:=ah.src;refine⟨I,?_⟩
   conv=>whnf
   exact⟨rfl,(i+1,.slice ta tl tc),T1,⟨⟨λ x o L=>Y.imm x o (g.imm x o L),⟨_,(append_nil _).symm⟩,Y.tok.trans g.tok⟩,by show i+1<=h.cl;omega,K',by show Jw 3 1 _ ((Qae (Bk.kpt _ (i+1))).map _) _;rw[Bk.kpt_in (out:=λ k=>l.contains (k:Int)) hh,Qae,map_append,map_append];exact ah,a6⟩,L1⟩
  |true=>
   refine⟨I,?_⟩
   conv=>whnf
   exact⟨rfl,(i+1,.slice sa sl sc),T1,⟨g,by show i+1<=h.cl;omega,K,by show Jw 3 1 _ ((Qae (Bk.kpt _ (i+1))).map _) _;rw[Bk.kpt_out (out:=λ k=>l.contains (k:Int)) hh];exact O,C⟩,L1⟩
 have H:i=b.cs.length:=by simp at F;omega
 rw[H]at O ao;have ad:=(O []).room;refine⟨_,⟨rfl,X.rd⟩,?_⟩;refine⟨Zod.any,((Qp5 h b (aj.lg g.frz2) J).okv (R':=λ v τ=>(∃v1 v2,v=.tuple #[v1,v2]/\Jd τ.frz v1 b.fatesR/\Jd τ.frz v2 b.fatesC)/\Z5 τ.frz sa sl (b.oth l)/\U1.frz.lg τ.frz/\τ.M=U.M) ?_).mono ?_⟩
 .rintro v U' hw ⟨⟨v1,v2,e,q1,q2⟩,d⟩;obtain⟨τ,k1,k2,k3,ka,kn,kc,e1,Z,bb,ap⟩:=O.freeze (Ko hw) (by rw[d.own,C]);cases e1;have A:=Vf bb ap;have Z:(b.oth l).length=sl:=by simpa[Bk.oth]using Z
  rw[show Qae (Bk.kpt (λ k=>l.contains (k:Int)) b.cs.length)=b.oth l from rfl,Z]at A;exact⟨τ,k1,⟨v1,v2,e,q1.lg k3,q2.lg k3⟩,A,g.frz2.trans (d.lg.frz2.trans k3),k2⟩
 rintro _ U5⟨⟨_,_,rfl,⟨ra,rc,rfl,hR⟩,⟨ca,cc,rfl,-⟩⟩,A,t,ai⟩-;obtain rfl:=A.1;have av:(b.oth l).length<=5:=by simpa[Bk.oth]using Nat.le_trans ao bd
 have a8:=aj.lg t;rw[am]at hR ⊢;clear O C g X
 refine⟨Nat,λ m=>[(1,.int .i64 r),(2,.slice la l.length lc),(3,.pointer (some ⟨B,0,none⟩)),(7,.slice sa (b.oth l).length sc),(9,.slice ra h.rl rc),(11,.int .i64 m)],
  λ m U'=>U5.le U'/\m<=(b.oth l).length+1/\∀m',m'<m->∀p∈TM.parts (b.oth l) m',b.hgP r p=true,λ m=>(b.oth l).length+1-m,0,T1,⟨.refl _,O1,O1⟩,?_⟩
 rintro m f U6⟨ab,hm,P⟩;have an:Zu ((m:Int)+1):=I1
 have af:∀{U':Qa T},U5.le U'->U.lg U':=λ k=>⟨λ x o L=>k.imm x o (t.imm x o (D.imm x o L)),⟨[],by rw[k.own,ai];rfl⟩,k.tok.trans (t.tok.trans D.tok)⟩
 repeat refine⟨rfl,?_⟩
 conv=>whnf
 apply Qe<;>intro F
 rotate_left
 .have H:m=(b.oth l).length+1:=by simp at F;omega
  rw[Bk.hgB_true λ m' bc=>P m' O1]
  repeat refine⟨rfl,?_⟩
  conv=>whnf
  exact af ab
 have bj:m<=(b.oth l).length:=by simpa using F
 refine⟨Q0j.any,(Zoq m (b.oth l) U6 sa sc O1 av ad (A.lg ab.lg.frz2)).mono ?_⟩;rintro _ U7⟨⟨pa,pc,cells,rfl,ax,bp,w⟩,h7⟩-;have Q:=w.1;have be:=Qvv (b.oth l) m;have bm:2^(b.oth l).length<=2^5:=Nat.pow_le_pow_right O1 av;generalize hP:TM.parts (b.oth l) m=ps at w Q be
 refine⟨Nat,λ i=>[(1,.int .i64 r),(2,.slice la l.length lc),(3,.pointer (some ⟨B,0,none⟩)),(7,.slice sa (b.oth l).length sc),(9,.slice ra h.rl rc),(11,.int .i64 m),(12,.slice pa cells.length pc),(13,.int .i64 i)],
  λ i U'=>U7.le U'/\i<=cells.length/\∀p∈ps.take i,b.hgP r p=true,λ i=>cells.length-i,0,T1,⟨.refl _,O1,S1⟩,?_⟩
 rintro i f U8⟨u,hi,q⟩;have I:Zu ((i:Int)+1):=I1
 have j:U5.le U8:=ab.trans (h7.trans u)
 repeat refine⟨rfl,?_⟩
 conv=>whnf
 apply Qe<;>intro F
 rotate_left
 .have H:i=cells.length:=by simp at F;omega
  rw[H,Q,take_length,<- hP]at q;refine⟨an,?_⟩
  conv=>whnf
  exact⟨rfl,m+1,T1,⟨j,O1,λ m' bc=>by by_cases e:m'=m;exact e▸q;exact P m' O1⟩,L1⟩
 have ac:i<cells.length:=by simpa using F
 obtain⟨x,L⟩:∃x,ps[i]?=some x:=⟨_,getElem?_eq_getElem O1⟩;obtain⟨xa,xc,bi,ae,ay⟩:=w.2 i x L
 obtain⟨G,e',bf⟩:∃G,pa=some G/\Jn U7.frz G cells:=by
  rcases ax with⟨_,hn⟩|h
  .subst hn;simp at ac
  .exact h
 have a5:Zi U8 B #[.slice h.ra h.rl h.rc,.slice h.ca h.cl h.cc]:=hB.imI λ x o L=>j.imm x o (t.imm x o L);have ak:=a8.lg j.lg.frz2;have ae:=ae.lg u.lg.frz2;refine⟨_,⟨rfl,a5.rd⟩,?_⟩;refine⟨G,i,⟨e',rfl,ac⟩,.slice xa x.length xc,by rw[Nat.mul_one];exact((bf i _ bi).lg u.lg.frz2).lg Qp,?_⟩;refine⟨λ v U'=>∃h':BH,v=h'.v/\Zq U'.frz h' (woC b x),λ v y1 y2⟨h',e,hh⟩d=>⟨h',e,hh.lg d.lg.frz2⟩,λ U' d _=>?_,λ v hv=>?_⟩
 .conv=>whnf
  exact⟨Zqf.any,(Zqn h b (ak.lg d.lg.frz2) J xa x.length xc x (ae.lg d.lg.frz2) ay).mono λ v U''⟨q1,q2⟩_=>⟨U'',.refl _,q1,q2⟩⟩
 obtain⟨_,-,-,h',rfl,-⟩:=hv;refine⟨λ v U'=>∃N R V W,v=.tuple #[.slice N h.rl R,.slice V (woC b x).fatesC.length W]/\Z5 U'.frz N h.rl (woC b x).fatesR,λ v y1 y2⟨N,R,V,W,e,hh⟩d=>⟨N,R,V,W,e,hh.lg d.lg.frz2⟩,λ U' d hC=>?_,λ v hv=>?_⟩
 .obtain⟨-,h2,e2,hb2⟩:=hC;obtain rfl:=BH.inj e2;refine⟨Zod.any,(Qp5 h' (woC b x) hb2 (J.wo _)).mono ?_⟩;rintro _ U''⟨⟨_,_,rfl,⟨N,R,rfl,hF⟩,⟨V,W,rfl,-⟩⟩,au⟩-;rw[ba]at hF ⊢;exact⟨U'',.refl _,⟨N,R,V,W,rfl,hF⟩,au⟩
 obtain⟨_,-,-,N,R,V,W,rfl,-⟩:=hv
 conv=>whnf
 rintro U9 h9⟨⟨-,-⟩,a1,a2,a3,a4,e2,hF⟩;obtain⟨⟨rfl,rfl⟩,rfl,rfl⟩:(N=a1/\R=a2)/\V=a3/\W=a4:=by simpa using e2
 obtain⟨az,y,hy,eF,-,bg⟩:=hF.at hr;obtain rfl:(woC b x).fatR r=y:=Option.some.inj ((a9 x).symm.trans hy);obtain⟨a0,z,hz,eR,-,bh⟩:=(hR.lg (j.trans h9).lg.frz2).at hr;obtain rfl:b.fatR r=z:=Option.some.inj (al.symm.trans hz);refine⟨az,r,⟨eF,rfl,hr⟩,_,bg.lg Qp,a0,r,⟨eR,rfl,hr⟩,_,bh.lg Qp,?_⟩
 conv=>whnf
 intro bk ag _;have aa:=j.trans (h9.trans ag)
 repeat refine⟨rfl,?_⟩
 conv=>whnf
 apply Qe<;>intro F
 .have hne:b.hgP r x=false:=by simpa[Bk.hgP]using F
  rw[Bk.hgB_false (m:=m) O1 (by rw[hP];exact mem_of_getElem? L) hne]
  repeat refine⟨rfl,?_⟩
  conv=>whnf
  exact af aa
 .have heq:b.hgP r x=true:=by simpa[Bk.hgP]using F
  refine⟨I,rfl,i+1,T1,⟨u.trans (h9.trans ag),O1,λ p hp=>?_⟩,L1⟩;rw[Ji L,mem_append]at hp;rcases hp with hp|hp
  .exact q p hp
  .rw[mem_singleton.1 hp];exact heq
end Go.Proofs

