/- Lemmas. No conditions. -/
import Derived.Test.YtnpfcnfhfkflhaaGreatDoorC03
import Derived.Test.YtnpfcnfhfkflhaaGreatDoorC00
set_option linter.all false
open List
open Go.Proofs.Tryz (prog)
set_option maxRecDepth 100000
namespace Go.TM
variable{T:Type}{P:Program}{S:Sys P T}
structure Hlr(U:Qa T)(b:Nat)(e:TypeId)(c:Array Value)(U':Qa T):Prop where
 imm:∀x o,U.I x=some o->U'.I x=some o
 own:U'.M=.obj b (.cells c e (0,0))::U.M
 tok:U'.tok=U.tok
 new:U.I b=none
def Hlr.le{U U' U'':Qa T}{b:Nat}{e:TypeId}{c:Array Value}(h:Hlr U b e c U')(k:U'.le U''):Hlr U b e c U'':=⟨λ x o i=>k.imm x o (h.imm x o i),k.own.trans h.own,k.tok.trans h.tok,h.new⟩
def Hlr.frz2{U U':Qa T}{b:Nat}{e:TypeId}{c:Array Value}(h:Hlr U b e c U'):U.frz.lg U'.frz:=⟨h.imm,⟨[],rfl⟩,h.tok⟩
def Hlr.frz1{U U':Qa T}{b:Nat}{e:TypeId}{c:Array Value}(h:Hlr U b e c U'):U.frz.lg U':=⟨h.imm,⟨_,(append_nil _).symm⟩,h.tok⟩
def Hlr.made{U U':Qa T}{b:Nat}{e:TypeId}{c:Array Value}(h:U.le U')(f:U'.free b):Hlr U b e c (U'.put b (.cells c e)):=by
 refine⟨h.imm,by show _::U'.M=_;rw[h.own],h.tok,?_⟩;cases d:U.I b with
 |none=>rfl
 |some o=>have:=h.imm b o d;rw[f.1]at this;cases this
def Hlr.write{U U':Qa T}{b:Nat}{e:TypeId}{c:Array Value}{vs:List Value}{Q:Qa T->Prop}(h:Hlr U b e c U')(f:c.size=vs.length)(j:∀v∈vs,v.single=true)(g:∀d,U.le d->Zi d b vs.toArray->Q d):ZA ⟨b,0,none⟩ vs 0 (λ U'=>∃d,Qw U' d/\Q d) U':=by
 refine VP [] vs 0 c U' h.own j O1 ?_;rw[Y7 f];refine⟨_,We (b:=b) (M':=U.M) (Perm.refl _),g _ ⟨λ x o i=>?_,rfl,h.tok⟩ Zi.new⟩;show JI U'.I b _ x=_;unfold JI;rw[if_neg]
 .exact h.imm x o i
 .rintro rfl;rw[h.new]at i;cases i
end Go.TM
namespace Go.Proofs
open Go.TM
def Zrs:C:=(.seq (.reg [.xb 4 false])
 (.seq (.seq (.reg [.xv 5 0])
 (.block 0 (.loop (.seq (.seq (.reg [.m 6 5,.m 7 0,.xn 8 7,.xc 9 .lss 6 8])
 (.ite (.t 9) .skip (.exit 0)))
 (.seq (.block 1 (.seq (.reg [.m 12 0,.m 13 5,.xi 14 1 12 13,.xl 15 14,.m 16 1,.xc 17 .eql 15 16])
 (.ite (.t 17) (.seq (.reg [.xb 4 true])
 .ret) .skip)))
 (.reg [.m 10 5,.xa 11 10,.m 5 11]))))))
 (.seq (.reg [.xb 4 false])
 .ret)))
def Zof:Zf prog 38 18 Zrs [.t 4]:=.o [] [] Tryz.func38 K1
variable{T:Type}{S:TM.Sys prog T}{U:Qa T}
attribute [local irreducible] Qb Zl Wt
def Q0h(a:Option Addr)(len cap:Nat)(l:List Int)(g:Z5 U a len l)(h:len<2^60)(n:Int) :
  Qb S 38 #[.slice a len cap,.int .i64 n] (λ v U'=>v=.bool (l.contains n)/\U'=U) U:=by
 refine Qb.of (args:=[_,_]) Zof Qf S1 ?_
 repeat refine⟨rfl,?_⟩
 refine⟨Nat,λ i=>[(0,.slice a len cap),(1,.int .i64 n),(5,.int .i64 i)],λ i U'=>U'=U/\i<=len/\n∉l.take i,λ i=>len-i,0,T1,⟨rfl,O1,S1⟩,?_⟩;rintro i f _⟨rfl,t,b⟩
 repeat refine⟨rfl,?_⟩
 conv=>whnf
 apply Qe<;>intro e
 .have hlt:i<len:=by simpa using e
  obtain⟨m,x,j,rfl,q,o⟩:=g.at hlt;refine⟨m,i,⟨rfl,rfl,hlt⟩,_,o,?_⟩
  repeat refine⟨rfl,?_⟩
  conv=>whnf
  apply Qe<;>intro e
  .repeat refine⟨rfl,?_⟩
   conv=>whnf
   have d:x=n:=by simpa using e
   refine⟨?_,rfl⟩;have:n∈l:=d▸mem_of_getElem? j;simp[this]
  .have d:x≠n:=by simpa using e
   refine⟨I1,?_⟩;refine⟨rfl,i+1,T1,⟨rfl,O1,?_⟩,L1⟩;rw[Ji j];simp[b,Ne.symm d]
 .have hge:len<=i:=by simpa using e
  repeat refine⟨rfl,?_⟩
  refine⟨?_,rfl⟩;have:l.take i=l:=take_of_length_le (by rw[g.1];exact hge);rw[this]at b;simp[b]
end Go.Proofs
namespace Go.TM
variable{T:Type}{U:Qa T}
def boC(l:List Bool):List Value:=l.map .bool
def Zp7(l:List Bool)(i:Nat)(x:Bool):(boC l).toArray.setIfInBounds i (.bool x)=(boC (l.set i x)).toArray:=by
 simp[boC,map_set]
def WX.of{b:Nat}{l:List Bool}(h:Jn U ⟨b,0,none⟩ (boC l)):WX U (some ⟨b,0,none⟩) l.length l:=
 ⟨rfl,λ i x d=>⟨_,rfl,rfl,by rw[Nat.mul_one];exact h i _ (by simp[boC,d])⟩⟩
def Zrw{n i:Nat}(h:i<n):(replicate i true++replicate (n-i) false).set i true=replicate (i+1) true++replicate (n-(i+1)) false:=by
 obtain⟨m,e⟩:∃m,n-i=m+1:=⟨n-i-1,O1⟩;rw[set_append_right _ _ S1,e];simp only[length_replicate,Nat.sub_self,replicate_succ,set_cons_zero];rw[show n-(i+1)=m by omega,<- replicate_succ,replicate_succ',append_assoc];rfl
def Zrx{P:Program}{t:TypeId}(h:(match P.info? t with|some b=>b.zero.isSome&&(match b.zero with|some (.bool false)=>true|_=>false)&&b.size==1&&decide (b.bytes<=64)|none=>false)=true):∃b,P.info? t=some b/\b.zero=some (.bool false)/\b.size=1/\b.bytes<=64:=by
 split at h
 .rename_i b hi;simp only[Bool.and_eq_true,beq_iff_eq,decide_eq_true_eq]at h;obtain⟨⟨⟨g,d⟩,e⟩,f⟩:=h;refine⟨b,hi,?_,e,f⟩;split at d
  .assumption
  .cases d
 .cases h
def Zr3{P:Program}{S:Sys P T}{f:FuncId}{args:Array Value}{s w:List Bool}(h:Qb S f args (λ v U'=>∃m b,v=.tuple #[.slice (some ⟨m,0,none⟩) s.length s.length,.slice (some ⟨b,0,none⟩) w.length w.length]/\U'.M=.obj m (.cells (boC s).toArray 4 (0,0))::.obj b (.cells (boC w).toArray 4 (0,0))::U.M/\(∀x o,U.I x=some o->U'.I x=some o)/\U'.tok=U.tok) U) :
  Qb S f args (λ v U'=>(∃g F,v=.tuple #[g,F]/\WQ U'.frz g s/\WQ U'.frz F w)/\U.le U') U:=by
 have G:Qb S f args (λ v U'=>∃g b,v=.tuple #[g,.slice (some ⟨b,0,none⟩) w.length w.length]/\WQ U'.frz g s/\U'.M=.obj b (.cells (boC w).toArray 4 (0,0))::U.M/\(∀x o,U.I x=some o->U'.I x=some o)/\U'.tok=U.tok) U:=by
  refine h.sep λ v U' z⟨m,b,B,u,t,A⟩=>?_;obtain⟨j,D,d,E⟩:=EF (U:={ U' with M:=.obj b (.cells (boC w).toArray 4 (0,0))::U.M }) z u (λ _ _ h=>h) rfl rfl;have q:Zi j.frz m (boC s).toArray:=⟨4,(0,0),E⟩;exact⟨j,D,_,b,B,q.bools (λ i x e=>by simp[boC,e]),d.own,λ x o e=>d.imm x o (t x o e),d.tok.trans A⟩
 refine G.sep λ v U' z⟨g,b,B,C,u,t,A⟩=>?_;obtain⟨j,D,d,E⟩:=EF (U:={ U' with M:=U.M }) z u (λ _ _ h=>h) rfl rfl;have q:Zi j.frz b (boC w).toArray:=⟨4,(0,0),E⟩;have H:U'.frz.lg j.frz:=⟨d.imm,⟨[],rfl⟩,d.tok⟩;exact⟨j,D,⟨_,_,B,C.lg H,q.bools (λ i x e=>by simp[boC,e])⟩,⟨λ x o e=>d.imm x o (t x o e),d.own,d.tok.trans A⟩⟩
end Go.TM
namespace Go.Proofs
open Go.TM
variable{T:Type}{S:TM.Sys prog T}{U:Qa T}
attribute [local irreducible] Qb Zl Wt
def Zp6(a j:Option Addr)(len cap b d:Nat)(l h:List Int)(w:Z5 U a len l)(o:Z5 U j b h)(z:len<2^60)(g:b<2^60) :
  Qb S 127 #[.slice a len cap,.slice j b d] (λ v U'=>v=.bool (l.all λ n=>h.contains n)/\U'=U) U:=by
 refine Qb.of (args:=[_,_]) Zpg Qf S1 ?_;have C:=w.1;refine⟨Nat,λ i=>[(0,.slice a len cap),(1,.slice j b d),(5,.int .i64 i)],λ i U'=>U'=U/\i<=len/\(l.take i).all (λ n=>h.contains n)=true,λ i=>len-i,0,T1,⟨rfl,O1,rfl⟩,?_⟩;rintro i f _⟨rfl,F,e⟩;have m:Zu ((i:Int)+1):=I1
 repeat refine⟨rfl,?_⟩
 conv=>whnf
 apply Qe<;>intro t
 .have hlt:i<len:=by simpa using t
  obtain⟨B,x,A,rfl,E,D⟩:=w.at hlt;refine⟨B,i,⟨rfl,rfl,hlt⟩,_,D,Zof.any,(Q0h j b d h o g x).go λ _=>?_⟩;cases u:h.contains x with
  |false=>
   have q:(l.all λ n=>h.contains n)=false:=by
    rw[all_eq_false];exact⟨x,mem_of_getElem? A,by rw[u];simp⟩
   rw[q]
   repeat refine⟨rfl,?_⟩
   conv=>whnf
  |true=>
   repeat refine⟨rfl,?_⟩
   refine⟨m,?_⟩
   conv=>whnf
   exact⟨rfl,i+1,T1,⟨rfl,O1,by rw[Ji A,all_append,e];simp only[all_cons,all_nil,u];rfl⟩,L1⟩
 .have hge:i=len:=by simp at t;omega
  rw[take_of_length_le O1]at e;rw[e]
  repeat refine⟨rfl,?_⟩
  conv=>whnf
def Zos(c:Cs)(R aa:Option Addr)(m gc al ac:Nat)(N:J3 U R m c.gs)(ap:m<2^60)(sa:Option Addr)(sl sc:Nat)(s:List Bool)(Z:WX U sa sl s)(X:∀g∈c.gs,∀n∈g,0<=n/\n.toNat<sl) :
  Qb S 128 #[.agg #[.string c.nm,.int .i64 c.ag,.slice R m gc,.slice aa al ac],.slice sa sl sc] (λ v U'=>v=.bool (Iq c.gs s)/\U'=U) U:=by
 refine Qb.pure' (Qb.of (args:=[_,_]) Zph Qf S1 ?_);have aj:=N.1
 repeat refine⟨rfl,?_⟩
 conv=>whnf
 intro B O e w;have w:Zi O B #[.string c.nm,.int .i64 c.ag,.slice R m gc,.slice aa al ac]:=w;have N:=N.lg e.lg;have Z:=Z.lg e.lg;refine⟨Nat,λ i=>[(1,.slice sa sl sc),(2,.pointer (some ⟨B,0,none⟩)),(5,.int .i64 i)],λ i U'=>U'=O/\i<=m/\Iq (c.gs.take i) s=false,λ i=>m-i,0,T1,⟨rfl,O1,rfl⟩,?_⟩;rintro i f U2⟨T,hi,h⟩;obtain rfl:=T.symm;have H:Zu ((i:Int)+1):=I1
 refine⟨_,w.sees3 (o:=2) rfl,?_⟩
 repeat refine⟨rfl,?_⟩
 conv=>whnf
 apply Qe<;>intro z
 .have hlt:i<m:=by simpa using z
  obtain⟨ad,g,an,d,ao,hx,A,aq,J,G,ai,F⟩:=N.at hlt;have ah:=G.1;have E:=X g F
  have u:Iq (c.gs.take (i+1)) s=g.all λ r=>s.getD r.toNat false:=by
   unfold Iq at h ⊢;rw[Ji hx,any_append,h];simp
  refine⟨Nat×Bool,λ y=>[(1,.slice sa sl sc),(2,.pointer (some ⟨B,0,none⟩)),(5,.int .i64 i),(6,.bool y.2),(7,.int .i64 y.1)],λ y U'=>U'=O/\y.1<=d/\((g.take y.1).all λ r=>s.getD r.toNat false)=y.2,λ y=>d-y.1,(0,true),T1,⟨rfl,S1,rfl⟩,?_⟩;rintro⟨j,t⟩f U2⟨T,hj,K⟩;obtain rfl:=T.symm;simp only at hj K;have q:Zu ((j:Int)+1):=I1
  refine⟨_,w.sees3 (o:=2) rfl,ad,i,⟨A,rfl,hlt⟩,_,J,?_⟩
  repeat refine⟨rfl,?_⟩
  conv=>whnf
  apply Qe<;>intro z
  .have hltj:j<d:=by simpa using z
   obtain⟨P,n,L,C,ak,ab⟩:=G.at hltj;obtain⟨Y,I⟩:=E n (mem_of_getElem? L);have b:((g.take (j+1)).all λ r=>s.getD r.toNat false)=(t&&s.getD n.toNat false):=by rw[Ji L,all_append,K];simp
   cases t with
   |false=>
    refine⟨q,?_⟩
    conv=>whnf
    exact⟨rfl,(j+1,false),T1,⟨rfl,by show j+1<=d;omega,b⟩,L1⟩
   |true=>
    obtain⟨Q,x,af,D,am,ae⟩:=Z.at I;have V:s.getD n.toNat false=x:=by simp[getD_eq_getElem?_getD,af]
    refine⟨_,w.sees3 (o:=2) rfl,ad,i,⟨A,rfl,hlt⟩,_,J,P,j,⟨C,rfl,hltj⟩,_,ab,Q,n.toNat,⟨D,(Int.toNat_of_nonneg Y).symm,I⟩,_,ae,q,?_⟩
    conv=>whnf
    exact⟨rfl,(j+1,x),T1,⟨rfl,by show j+1<=d;omega,by rw[b,V];rfl⟩,L1⟩
  have W:j=d:=by simp at z;omega
  rw[take_of_length_le O1]at K;cases t with
  |true=>
   have M:Iq c.gs s=true:=by
    unfold Iq;rw[any_eq_true];exact⟨g,F,K⟩
   rw[M]
   repeat refine⟨rfl,?_⟩
   conv=>whnf
   exact e.lg
  |false=>
   refine⟨H,?_⟩
   conv=>whnf
   exact⟨rfl,i+1,T1,⟨rfl,O1,by rw[u,K]⟩,L1⟩
 .have W:i=m:=by simp at z;omega
  rw[take_of_length_le O1]at h;rw[h]
  repeat refine⟨rfl,?_⟩
  conv=>whnf
  exact e.lg
def Zrz:∃b,prog.info? 4=some b/\b.zero=some (.bool false)/\b.size=1/\b.bytes<=64:=Zrx K1
def Q4v:prog.underlying 29=some (.slice 4):=K1
set_option maxHeartbeats 2000000 in
def Zp2(h:BH)(b:Bk)(hb:Zq U.frz h b)(Y:b.Ok)(a:Option Addr)(cap:Nat)(o:List Nat)(ho:Z5 U.frz a o.length (o.map λ(k:Nat)=>(k:Int)))(a9:∀i∈o,i<b.cs.length)(bv:o.length<2^60) :
  Qb S 72 #[h.v,.slice a o.length cap] (λ v U'=>(∃v1 v2,v=.tuple #[v1,v2]/\WQ U'.frz v1 (b.ends o).1/\WQ U'.frz v2 (b.ends o).2)/\U.le U') U:=by
 refine Zr3 (Qb.of (args:=[_,_]) Zqm Qf S1 ?_);have aq:=hb.cs.1;have ar:=hb.rs.1;have b2:=Y.nr;have b1:=Y.nc;obtain⟨i4,ab,ae,af,ah⟩:=Zrz
 repeat refine⟨rfl,?_⟩
 conv=>whnf
 intro B H J hB;have hB:Zi H B #[.slice h.ra h.rl h.rc,.slice h.ca h.cl h.cc]:=hB;have W:Zi H.frz B #[.slice h.ra h.rl h.rc,.slice h.ca h.cl h.cc]:=hB;have bj:=hb.lg J.lg.frz2
 let ZR:List Bool:=replicate h.rl false
 let L:List Bool:=replicate h.cl false
 have a1:(replicate h.rl (Value.bool false)).toArray=(boC ZR).toArray:=by simp[boC,ZR]
 have a0:(replicate h.cl (Value.bool false)).toArray=(boC L).toArray:=by simp[boC,L]
 let K:Nat->Nat->List Bool->List Bool->List Qx:=λ d m s w=>.obj d (.cells (boC s).toArray 4 (0,0))::.obj m (.cells (boC w).toArray 4 (0,0))::U.M
 conv=>whnf
 intro ac P
 refine SQ (mu:=[1009]) (ops:=Pl Tryz.f72 1) (id:=1) P [3,7] [[0,1,2,4,5,6,3,8,7],[0,1,2,4,5,6,7,3,8]] [9] Zc5 Zqg Qf K1 K1 K1 K1 K1
  (λ f' N U'=>N=[]/\∃d m,XF f' [(1,.slice a o.length cap),(2,.pointer (some ⟨B,0,none⟩)),(6,.slice (some ⟨d,0,none⟩) h.rl h.rl),(18,.slice (some ⟨m,0,none⟩) h.cl h.cl)]/\H.frz.lg U'/\U'.M=K d m ZR L) ?_ ?_
 .intro l z;simp only[Zc5,mem_cons,not_mem_nil,or_false]at z;rcases z with rfl|rfl
  .refine⟨_,W.sees3 (o:=0) rfl,_,W.sees3 (o:=1) rfl,λ v U'=>∃d,v=.slice (some ⟨d,0,none⟩) h.rl h.rl/\H.frz.lg U'/\U'.M=.obj d (.cells (boC ZR).toArray 4 (0,0))::U.M,λ v V x2⟨d,e,z,F⟩t=>⟨d,e,z.trans t.lg,t.own.trans F⟩,λ v U'⟨d,e,z,F⟩=>z,λ U' I=>?_,λ v Z=>?_⟩
   .conv=>whnf
    refine EK (n:=h.rl) Q4v ab ae rfl af ah rfl rfl O1 λ d br=>?_;refine⟨_,.refl _,d,rfl,⟨λ x o E=>I.imm x o E,⟨_,(append_nil _).symm⟩,I.tok⟩,?_⟩;show _::U'.M=_;rw[I.own,J.own,a1]
   obtain⟨_,d,rfl,-⟩:=Z;refine⟨λ v U'=>∃m,v=.slice (some ⟨m,0,none⟩) h.cl h.cl/\H.frz.lg U'/\U'.M=K d m ZR L,λ v V x2⟨d,e,z,F⟩t=>⟨d,e,z.trans t.lg,t.own.trans F⟩,λ v U'⟨d,e,z,F⟩=>z,λ U' I=>?_,λ v Z=>?_⟩
   .obtain⟨av,e,D,C⟩:=I;obtain rfl:d=av:=by simpa using e
    conv=>whnf
    refine EK (n:=h.cl) Q4v ab ae rfl af ah rfl rfl O1 λ m bt=>?_;refine⟨_,W7 (M':=K d m ZR L) ?_,m,rfl,⟨λ x o E=>D.imm x o E,⟨_,(append_nil _).symm⟩,D.tok⟩,rfl⟩;show(_::U'.M).Perm _;rw[C,a0];exact Perm.swap _ _ _
   obtain⟨_,m,rfl,-⟩:=Z
   conv=>whnf
   rintro U'⟨aw,e,D,C⟩;obtain rfl:m=aw:=by simpa using e
   exact⟨rfl,d,m,T1,D,C⟩
  .refine⟨_,W.sees3 (o:=0) rfl,_,W.sees3 (o:=1) rfl,λ v U'=>∃m,v=.slice (some ⟨m,0,none⟩) h.cl h.cl/\H.frz.lg U'/\U'.M=.obj m (.cells (boC L).toArray 4 (0,0))::U.M,λ v V x2⟨d,e,z,F⟩t=>⟨d,e,z.trans t.lg,t.own.trans F⟩,λ v U'⟨d,e,z,F⟩=>z,λ U' I=>?_,λ v Z=>?_⟩
   .conv=>whnf
    refine EK (n:=h.cl) Q4v ab ae rfl af ah rfl rfl O1 λ m bt=>?_;refine⟨_,.refl _,m,rfl,⟨λ x o E=>I.imm x o E,⟨_,(append_nil _).symm⟩,I.tok⟩,?_⟩;show _::U'.M=_;rw[I.own,J.own,a0]
   obtain⟨_,m,rfl,-⟩:=Z;refine⟨λ v U'=>∃d,v=.slice (some ⟨d,0,none⟩) h.rl h.rl/\H.frz.lg U'/\U'.M=K d m ZR L,λ v V x2⟨d,e,z,F⟩t=>⟨d,e,z.trans t.lg,t.own.trans F⟩,λ v U'⟨d,e,z,F⟩=>z,λ U' I=>?_,λ v Z=>?_⟩
   .obtain⟨aw,e,D,C⟩:=I;obtain rfl:m=aw:=by simpa using e
    conv=>whnf
    refine EK (n:=h.rl) Q4v ab ae rfl af ah rfl rfl O1 λ d br=>?_;refine⟨_,.refl _,d,rfl,⟨λ x o E=>D.imm x o E,⟨_,(append_nil _).symm⟩,D.tok⟩,?_⟩;show _::U'.M=_;rw[C,a1]
   obtain⟨_,d,rfl,-⟩:=Z
   conv=>whnf
   rintro U'⟨av,e,D,C⟩;obtain rfl:d=av:=by simpa using e
   exact⟨rfl,d,m,T1,D,C⟩
 rintro f' N U3⟨rfl,d,m,O,a8,az⟩;rw[<- O.ovr];clear O
 conv=>whnf
 intro a' X;refine⟨by rw[X.size,P.size],_,X.get,?_⟩;rw[X.ds];clear X P
 refine⟨Nat,λ i=>[(1,.slice a o.length cap),(2,.pointer (some ⟨B,0,none⟩)),(6,.slice (some ⟨d,0,none⟩) h.rl h.rl),(7,.slice (some ⟨m,0,none⟩) h.cl h.cl),(8,.int .i64 i)],
  λ i U'=>H.frz.lg U'/\i<=h.rl/\U'.M=K d m (replicate i true++replicate (h.rl-i) false) L,λ i=>h.rl-i,0,T1,⟨a8,O1,by rw[az];simp[ZR]⟩,?_⟩
 rintro i f U4⟨z,hi,F⟩;have bq:Zu ((i:Int)+1):=I1
 repeat refine⟨rfl,?_⟩
 conv=>whnf
 apply Qe<;>intro hc
 .have hlt:i<h.rl:=by simpa using hc
  refine⟨_,i,⟨rfl,rfl,hlt⟩,rfl,gb (L₁:=[]) (by rw[F];exact Perm.refl _) (by simp[boC];omega) rfl λ V k1 k2 k3=>?_⟩
  have C:V.M=K d m (replicate (i+1) true++replicate (h.rl-(i+1)) false) L:=by
   rw[k3,Nat.mul_one];show([]:List Qx)++.obj d (.cells ((boC _).toArray.setIfInBounds i (.bool true)) 4 (0,0))::_=_;rw[Zp7,Zrw hlt];rfl
  refine⟨bq,?_⟩
  conv=>whnf
  exact⟨rfl,i+1,T1,⟨⟨λ x o E=>by rw[k1];exact z.imm x o E,⟨_,(append_nil _).symm⟩,by rw[k2];exact z.tok⟩,O1,C⟩,L1⟩
 have a4:i=h.rl:=by simp at hc;omega
 subst a4;have a6:b.ini=(replicate h.rl true++replicate (h.rl-h.rl) false,L):=by simp[Bk.ini,L,ar,aq]
 refine⟨Nat,λ j=>[(1,.slice a o.length cap),(2,.pointer (some ⟨B,0,none⟩)),(6,.slice (some ⟨d,0,none⟩) h.rl h.rl),(7,.slice (some ⟨m,0,none⟩) h.cl h.cl),(9,.int .i64 j)],
  λ j U'=>H.frz.lg U'/\j<=o.length/\U'.M=K d m (b.ends (o.take j)).1 (b.ends (o.take j)).2,λ j=>o.length-j,0,T1,⟨z,O1,by rw[F];show _=K d m b.ini.1 b.ini.2;rw[a6]⟩,?_⟩
 rintro j f U5⟨R,hj,ao⟩;have am:Zu ((j:Int)+1):=I1
 repeat refine⟨rfl,?_⟩
 conv=>whnf
 apply Qe<;>intro hc
 .have hlt:j<o.length:=by simpa using hc
  obtain⟨n,au⟩:∃n,o[j]?=some n:=⟨_,getElem?_eq_getElem hlt⟩;have hn:=a9 n (mem_of_getElem? au);obtain⟨ax,x2,bd,ak,bw,bb⟩:=(ho.lg J.lg.frz2).at hlt;obtain rfl:(n:Int)=x2:=by rw[getElem?_map,au]at bd;exact Option.some.inj bd
  obtain⟨ad,c,ga,gl,gc,aa,al,ac,E,bm,b3,bs,hg,bn,ha,b0,an⟩:=bj.case (show n<h.cl by omega);have a2:b.cas n=c:=by simp[Bk.cas,getD_eq_getElem?_getD,E]
  have bi:=Y.ag c an;have bp:=Y.gs c an;have f5:H.frz.lg U5.frz:=R.frz2;have be:Zi U5.frz B #[.slice h.ra h.rl h.rc,.slice h.ca h.cl h.cc]:=hB.imI R.imm
  conv=>whnf
  intro bz Q
  refine SQ (mu:=[1009]) (ops:=Pl Tryz.f72 9) (id:=9) Q [8] [[0,1,2,3,4,5,6,7,8]] [9] Zc6 Zqh Qf K1 K1 K1 K1 K1
   (λ f' N U'=>N=[]/\∃A,XF f' [(1,.slice a o.length cap),(2,.pointer (some ⟨B,0,none⟩)),(6,.slice (some ⟨d,0,none⟩) h.rl h.rl),(7,.slice (some ⟨m,0,none⟩) h.cl h.cl),(9,.int .i64 j),(10,.pointer (some ⟨A,0,none⟩)),(41,.agg #[.string c.nm,.int .i64 c.ag,.slice ga gl gc,.slice aa al ac])]/\Hlr U5 A 49 #[.string ⟨#[]⟩,.int .i64 0,.slice none 0 0,.slice none 0 0] U') ?_ ?_
  .intro l z;simp only[Zc6,mem_cons,not_mem_nil,or_false]at z;subst z;refine⟨_,be.sees3 (o:=1) rfl,ax,j,⟨ak,rfl,hlt⟩,_,bb.lg f5,ad,n,⟨bm,rfl,O1⟩,_,⟨rfl,bs.lg f5⟩,λ v U'=>∃A,v=.pointer (some ⟨A,0,none⟩)/\Hlr U5 A 49 #[.string ⟨#[]⟩,.int .i64 0,.slice none 0 0,.slice none 0 0] U',λ v V x2⟨q,e,hh⟩t=>⟨q,e,hh.le t⟩,λ v U'⟨q,e,hh⟩=>hh.frz1,λ U' I=>?_,λ v Z=>?_⟩
   .conv=>whnf
    intro A a3;exact⟨_,.refl _,_,.refl _,A,rfl,Hlr.made I a3⟩
   obtain⟨_,A,rfl,-⟩:=Z
   conv=>whnf
   rintro U'⟨ay,e,hh⟩;obtain rfl:A=ay:=by simpa using e
   exact⟨rfl,A,T1,hh⟩
  rintro f' N U6⟨rfl,A,O,a5⟩;rw[<- O.ovr];clear O;refine⟨rfl,a5.write (vs:=[.string c.nm,.int .i64 c.ag,.slice ga gl gc,.slice aa al ac]) rfl (by simp[Value.single]) λ U7 h7 aj=>?_⟩
  conv=>whnf
  intro bx G;refine⟨by rw[G.size,Q.size],_,G.get,?_⟩;rw[G.ds];clear G Q;have T:H.frz.lg U7:=R.trans h7.lg;have ap:U7.M=K d m (b.ends (o.take j)).1 (b.ends (o.take j)).2:=h7.own.trans ao;have bc:=(b.end_len (o.take j));have ba:(b.ends (o.take j)).1.length=h.rl:=by rw[bc.1,ar]
  have bu:(b.ends (o.take j)).2.length=h.cl:=by rw[bc.2,aq]
  have bl:WX U7 (some ⟨d,0,none⟩) h.rl (b.ends (o.take j)).1:=ba▸WX.of (Za [] ap);have u:b.ends (o.take (j+1))=b.stp (b.ends (o.take j)) n:=by rw[Ji au,b.ends_snoc]
  unfold Bk.stp at u;rw[a2]at u;refine⟨_,⟨rfl,aj.rd⟩,?_⟩;refine⟨Zph.any,(Zos c ga aa gl gc al ac ((hg.lg T.frz2).lg Qp) bn (some ⟨d,0,none⟩) h.rl h.rl (b.ends (o.take j)).1 bl (λ g bo n hn=>?_)).mono ?_⟩
  .have:=(bp g bo).2 n hn;unfold Bk.nr at this;omega
  rintro _ U'⟨rfl,bh⟩-;obtain rfl:=bh.symm;have ai:c.ag=(c.ag.toNat:Int)/\c.ag.toNat<h.rl:=by unfold Bk.nr at bi;omega
  cases hw:Iq c.gs (b.ends (o.take j)).1 with
  |true=>
   rw[if_pos hw]at u;refine⟨ax,j,⟨ak,rfl,hlt⟩,_,bb.lg (Qp.trans T:H.frz.frz.lg U7),_,n,⟨rfl,rfl,O1⟩,rfl,gb (L₁:=[_]) (by rw[ap];first|done|exact Perm.refl _) (by simp[boC];omega) rfl λ V k1 k2 k3=>?_⟩
   have bf:V.M=K d m (b.ends (o.take j)).1 ((b.ends (o.take j)).2.set n true):=by
    rw[k3,Nat.mul_one];show([Qx.obj d _]:List Qx)++Qx.obj m (.cells ((boC _).toArray.setIfInBounds n (.bool true)) 4 (0,0))::_=_;rw[Zp7];rfl
   have a7:H.frz.lg V:=⟨λ x o E=>by rw[k1];exact T.imm x o E,⟨_,(append_nil _).symm⟩,by rw[k2];exact T.tok⟩;have bk:=aj.imI (U':=V) λ x o E=>by rw[k1];exact E
   refine⟨_,bk.sees3 (o:=1) rfl,_,c.ag.toNat,⟨rfl,ai.1,ai.2⟩,rfl,gb (L₁:=[]) (by rw[bf];first|done|exact Perm.refl _) (by simp[boC];omega) rfl λ x2 k4 k5 k6=>?_⟩
   have bg:x2.M=K d m (b.ends (o.take (j+1))).1 (b.ends (o.take (j+1))).2:=by
    rw[k6,Nat.mul_one,u];show([]:List Qx)++.obj d (.cells ((boC _).toArray.setIfInBounds c.ag.toNat (.bool false)) 4 (0,0))::_=_;rw[Zp7];rfl
   refine⟨am,?_⟩
   conv=>whnf
   exact⟨rfl,j+1,T1,⟨⟨λ x o E=>by rw[k4];exact a7.imm x o E,⟨_,(append_nil _).symm⟩,by rw[k5];exact a7.tok⟩,O1,bg⟩,L1⟩
  |false=>
   rw[if_neg (by simp[hw])]at u;refine⟨am,?_⟩
   conv=>whnf
   exact⟨rfl,j+1,T1,⟨T,O1,by rw[ap,u]⟩,L1⟩
 have a4:j=o.length:=by simp at hc;omega
 rw[take_of_length_le O1]at ao;have he:=b.end_len o
 repeat refine⟨rfl,?_⟩
 conv=>whnf
 exact⟨d,m,by rw[he.1,he.2,ar,aq];rfl,ao,λ x o E=>R.imm x o (J.imm x o E),R.tok.trans J.tok⟩
end Go.Proofs
namespace Go.TM
variable{T:Type}{P:Program}{S:Sys P T}{U U':Qa T}
def Qb.pre{f:FuncId}{args:Array Value}{Q:Value->Qa T->Prop}{d:Qa T}(e:Qw U d)(h:Qb S f args Q d):Qb S f args Q U:=λ b m c cs k=>.shift e (h b m c cs k)
def QS.lgs{a:Option Addr}{cs:List Value}(h:QS U a cs)(d:U.lg U'):QS U' a cs:=by
 rcases h with h|⟨b,e,f⟩
 .exact .inl h
 .exact .inr ⟨b,e,f.lg d⟩
def Qcf(U:Qa T)(l:List Int)(v:Value)(U':Qa T):Prop:=(∃a l c,v=.slice a l c)/\U.frz.lg U'/\Acc 3 1 v (l.map λ n=>.int .i64 n) U'.M U.M
def Qcf.le{l:List Int}{v:Value}{U'':Qa T}(h:Qcf U l v U')(k:U'.le U''):Qcf U l v U'':=⟨h.1,h.2.1.trans k.lg,by rw[k.own];exact h.2.2⟩
def Qcf.new{p:Nat}(h:U.le U'):Qcf U [] (.slice (some ⟨p,0,none⟩) 0 0) (U'.put p (.cells #[] 3)):=
 ⟨⟨_,_,_,rfl⟩,⟨λ x o b=>h.imm x o b,⟨_,(append_nil _).symm⟩,h.tok⟩,.inr ⟨p,#[],0,0,rfl,rfl,Nat.le_refl _,rfl,by show _::U'.M=_;rw[h.own],S1⟩⟩
def Qcf.give{f:FuncId}{xs:Value->Array Value}{l:List Int}{v:Value}{Q:Value->Qa T->Prop}(h:Qcf U l v U')
  (k:∀(b:Qa T)a cap,v=.slice a l.length cap->U.le b->Z5 b.frz a l.length l->Qb S f (xs v) Q b):Qb S f (xs v) Q U':=by
 refine Qb.sep0 λ j=>?_;obtain⟨b,q,t,a,len,cap,rfl,g,d,e,-⟩:=h.2.2.freeze j (λ x o m=>h.2.1.imm x o m) h.2.1.tok;simp at g;subst g;exact .pre q (k b a cap rfl t (Vf d e))
def Xn.single{cs:List Value}{g:List (List Int)}(h:Xn U cs g):∀w∈cs,w.single=true:=λ w f=>by
 obtain⟨i,d,e⟩:=mem_iff_getElem.1 f;obtain⟨a,c,b,-⟩:=h.2 i _ (getElem?_eq_getElem (by rw[<- h.1];exact d));rw[getElem?_eq_getElem d,e]at b;rw[Option.some.inj b];rfl
def Xn.app{cs d:List Value}{q f:List (List Int)}(h:Xn U cs q)(b:Xn U d f):Xn U (cs++d) (q++f):=by
 refine⟨by simp[h.1,b.1],λ i x j=>?_⟩;by_cases t:i<q.length
 .rw[getElem?_append_left t]at j;obtain⟨m,o,e,b,g⟩:=h.2 i x j;exact⟨m,o,by rw[getElem?_append_left (by rw[h.1];exact t)];exact e,b,g⟩
 .rw[getElem?_append_right O1]at j;obtain⟨m,o,e,b,g⟩:=b.2 _ x j;exact⟨m,o,by rw[getElem?_append_right (by rw[h.1];omega),h.1];exact e,b,g⟩
def Zm0(U:Qa T)(v:Value)(d:List (List Int)):Prop:=∃a c cells,v=.slice a cells.length c/\QS U.frz a cells/\(∀b,a=some b->b.spot=none)/\Xn U cells d
def Zpi(o:List Nat)(i:Nat):(o.map λ(k:Nat)=>(k:Int)).contains (i:Int)=o.contains i:=by
 rw[Bool.eq_iff_iff,contains_iff_mem,contains_iff_mem,mem_map];exact⟨λ⟨k,b,e⟩=>(by omega:k=i)▸b,λ h=>⟨i,h,rfl⟩⟩
def Bk.aft_all{b:Bk}(f:b.Ok){i:Nat}{c:Cs}(g:b.cs[i]?=some c)(o:List Nat):(c.af.all λ n=>(o.map λ(k:Nat)=>(k:Int)).contains n)=(Je b.A i).all λ k=>o.contains k:=by
 rw[Bk.aft1_at g,all_map,Bool.eq_iff_iff,all_eq_true,all_eq_true]
 have e:∀n∈c.af,(o.map λ(k:Nat)=>(k:Int)).contains n=o.contains n.toNat:=λ n d=>by
  obtain⟨q,rfl⟩:=Int.eq_ofNat_of_zero_le (f.af c (mem_of_getElem? g) n d).1;rw[Zpi];rfl
 exact⟨λ h n d=>by show o.contains n.toNat=true;rw[<- e n d];exact h n d,λ h n d=>by rw[e n d];exact h n d⟩
def Bk.ordsTo_end(b:Bk)(k:Nat)(o:List Nat):b.ordsTo k o b.cs.length=b.ords (k+1) o:=rfl
def Bk.ordsTo_len{b:Bk}(d:b.Ok){k:Nat}(f:k+1<=5)(o:List Nat){m:Nat}(g:m<=b.cs.length):(b.ordsTo k o m).length<=3125:=by
 obtain⟨r,h⟩:=b.ordsTo_le k o g;have e:=b.ords_le d.nc (k+1) o;rw[h,length_append]at e;have j:5^(k+1)<=5^5:=Nat.pow_le_pow_right O1 f;have q:(5:Nat)^5=3125:=D1
 omega
end Go.TM
namespace Go.Proofs
open Go.TM
def Zg4:List (List (Nat×St)):=[[(0,.m 38 5),(0,.xd 39 2 2),(0,.m 41 1),(0,.m 43 6),(2,.d 40 (.bsl 3 0 #[] [])),(2,.xz 42 40 41 26),(2,.d 44 (.bsl 3 1 #[(.int .i64 0)] [(0,1,(.t 43))])),(2,.xz 45 42 44 26),(2,.d 46 (.call (.func 82) #[(.t 39),(.t 45)]))],
 [(0,.m 38 5),(0,.xd 39 2 2),(0,.m 41 1),(0,.m 43 6),(2,.d 40 (.bsl 3 0 #[] [])),(2,.d 44 (.bsl 3 1 #[(.int .i64 0)] [(0,1,(.t 43))])),(2,.xz 42 40 41 26),(2,.xz 45 42 44 26),(2,.d 46 (.call (.func 82) #[(.t 39),(.t 45)]))],
 [(0,.m 38 5),(0,.xd 39 2 2),(0,.m 41 1),(0,.m 43 6),(2,.d 44 (.bsl 3 1 #[(.int .i64 0)] [(0,1,(.t 43))])),(2,.d 40 (.bsl 3 0 #[] [])),(2,.xz 42 40 41 26),(2,.xz 45 42 44 26),(2,.d 46 (.call (.func 82) #[(.t 39),(.t 45)]))]]
def Zqj:List St:=[.xz 47 38 46 47,.m 5 47]
variable{T:Type}{S:TM.Sys prog T}
attribute [local irreducible] Qb Zl Wt
set_option maxHeartbeats 4000000 in
def Zm6(h:BH)(b:Bk)(ap:b.Ok)(bq:b.cs.length=h.cl):∀(m:Nat)(o:List Nat)(U:Qa T),Zq U.frz h b->∀(pa:Option Addr)(pc:Nat),Z5 U.frz pa o.length (Qae o)->o.length+m=h.cl ->
  Qb S 82 #[h.v,.slice pa o.length pc] (λ v U'=>Zm0 U' v ((b.ords m o).map Qae)/\U.le U') U:=by
 intro m
 induction m with
 |zero=>
  intro o U hb pa pc hO a5;have bj:=ap.nc
  have aq:Qb S 82 #[h.v,.slice pa o.length pc] (λ v U'=>∃p a l c,v=.slice (some ⟨p,0,none⟩) 1 1/\Zi U' p #[.slice a l c]/\Qcf U (Qae o) (.slice a l c) U') U:=by
   refine Qb.of (args:=[_,_]) Qpf Qf S1 ?_
   repeat refine⟨rfl,?_⟩
   conv=>whnf
   intro B Y W hB;have hB:Zi Y B #[.slice h.ra h.rl h.rc,.slice h.ca h.cl h.cc]:=hB;refine⟨_,hB.sees3 (o:=1) rfl,?_⟩
   repeat refine⟨rfl,?_⟩
   conv=>whnf
   apply Qe<;>intro hc
   rotate_left
   .exfalso;simp at hc;omega
   conv=>whnf
   intro am bm;refine⟨_,.refl _,?_⟩;have hn:Qcf U [] (.slice (some ⟨am,0,none⟩) 0 0) (Y.put am (.cells #[] 3)):=.new W
   conv=>whnf
   refine Ws (v:=.slice (some ⟨am,0,none⟩) 0 0) (cs:=([]:List Int).map λ n=>.int .i64 n) (new:=(Qae o).map λ n=>.int .i64 n) (M₀:=U.M) Hf rfl rfl hn.2.2 ((hO.lg hn.2.1.frz2).lg Qp).src' (by simp[Qae]) (by simp[Value.single]) (by simp[Qae];omega) λ v' M' q _=>?_;obtain⟨ta,tl,tc,rfl,-⟩:=Acc.src (U:={ (Y.put am (.cells #[] 3))with M:=M' }) q;have bb:Qcf U (Qae o) (.slice ta tl tc) ({ (Y.put am (.cells #[] 3))with M:=M' }:Qa T):=⟨⟨_,_,_,rfl⟩,⟨hn.2.1.imm,⟨_,(append_nil _).symm⟩,hn.2.1.tok⟩,by simpa using q⟩
   conv=>whnf
   intro a8 a3;refine Zk a3 λ U2 ba a2=>?_
   repeat refine⟨rfl,?_⟩
   conv=>whnf
   exact⟨a8,ta,tl,tc,rfl,a2,bb.le ba⟩
  refine aq.sep λ v U' hs⟨p,a,l,c,e,be,t⟩=>?_;obtain⟨Y,k1,V,a',len,cap,e',hl,R,au,-⟩:=Acc.freeze (U:={ U' with M:=U.M }) hs t.2.2 (λ _ _ h=>h) rfl;obtain⟨rfl,rfl,rfl⟩:a=a'/\l=len/\c=cap:=by simpa using e'
  have hz:U'.frz.lg Y.frz:=⟨V.imm,⟨[],rfl⟩,V.tok⟩;have ax:(Qae o).length=l:=by simpa[Qae]using hl
  have hI:=Vf R au;refine⟨Y,k1,⟨some ⟨p,0,none⟩,1,[.slice a l c],e,.inr ⟨_,rfl,((show Zi U'.frz p #[.slice a l c] from be).lg hz).rd⟩,(λ ad e=>by cases e;rfl),rfl,λ i x hx=>?_⟩,⟨λ x u hx=>V.imm x u (t.2.1.imm x u hx),V.own,V.tok.trans t.2.1.tok⟩⟩;have hx:[Qae o][i]?=some x:=hx
  obtain⟨rfl,rfl⟩:i=0/\x=Qae o:=by
   cases i with
   |zero=>exact⟨rfl,by simpa using hx.symm⟩
   |succ i=>simp at hx
  exact⟨a,c,by rw[ax];rfl,hI,by rw[ax];simp[Qae]at ax;omega⟩
 |succ k ih=>
  intro o U hb pa pc hO a5;have bj:=ap.nc
  have aq:Qb S 82 #[h.v,.slice pa o.length pc] (λ v U'=>∃cells,Acc 26 1 v cells U'.M U.M/\Xn U' cells ((b.ords (k+1) o).map Qae)/\(∀x ox,U.I x=some ox->U'.I x=some ox)/\U'.tok=U.tok) U:=by
   refine Qb.of (args:=[_,_]) Qpf Qf S1 ?_
   repeat refine⟨rfl,?_⟩
   conv=>whnf
   intro B Y W hB;have hB:Zi Y B #[.slice h.ra h.rl h.rc,.slice h.ca h.cl h.cc]:=hB;have a9:Zi Y.frz B #[.slice h.ra h.rl h.rc,.slice h.ca h.cl h.cc]:=hB;have bd:=hb.lg W.lg.frz2;refine⟨_,hB.sees3 (o:=1) rfl,?_⟩
   repeat refine⟨rfl,?_⟩
   conv=>whnf
   apply Qe<;>intro hc
   .exfalso;simp at hc;omega
   refine⟨Nat×Value,λ y=>[(1,.slice pa o.length pc),(2,.pointer (some ⟨B,0,none⟩)),(5,y.2),(6,.int .i64 y.1)],λ y U'=>Y.frz.lg U'/\y.1<=h.cl/\∃cells,Acc 26 1 y.2 cells U'.M U.M/\Xn U' cells ((b.ordsTo k o y.1).map Qae),λ y=>h.cl-y.1,(0,.slice none 0 0),T1,⟨Qp,O1,[],by rw[W.own];exact .nil,rfl,by simp[Bk.ordsTo]⟩,?_⟩;rintro⟨i,v⟩f F⟨Q,hi,cells,t,E⟩;simp only at t E hi;obtain⟨oa,ol,oc,rfl,bt,-⟩:=t.src;have aw:Zu ((i:Int)+1):=I1
   have Z:Zi F.frz B #[.slice h.ra h.rl h.rc,.slice h.ca h.cl h.cc]:=a9.lg Q.frz2;have a1:Zi F B #[.slice h.ra h.rl h.rc,.slice h.ca h.cl h.cc]:=Z.lg Qp;have ab:=bd.lg Q.frz2;have an:Z5 F.frz pa o.length (Qae o):=(hO.lg W.lg.frz2).lg Q.frz2;have N:=b.ordsTo_succ k o i;refine⟨_,a1.sees3 (o:=1) rfl,?_⟩
   repeat refine⟨rfl,?_⟩
   conv=>whnf
   apply Qe<;>intro hc
   rotate_left
   .have hge:i=b.cs.length:=by simp at hc;omega
    rw[hge,b.ordsTo_end]at E
    repeat refine⟨rfl,?_⟩
    conv=>whnf
    exact⟨cells,t,E,λ x ox hx=>Q.imm x ox (W.imm x ox hx),Q.tok.trans W.tok⟩
   have a6:i<h.cl:=by simpa using hc
   obtain⟨ad,c,ga,gl,gc,aa,al,ac,hx,bh,au,bk,hg,br,ha,bc,bn⟩:=ab.case a6;have bl:=ha.1;have skip:b.can o i=false->((b.ordsTo k o (i+1)).map Qae)=(b.ordsTo k o i).map Qae:=λ e=>by rw[N,e];simp
   refine⟨Zof.any,(Q0h pa o.length pc (Qae o) (an.lg Qp) O1 (i:Int)).go λ _=>?_⟩;rw[Zpi];cases g:o.contains i with
   |true=>
    have P:b.can o i=false:=by unfold Bk.can;rw[g];rfl
    refine⟨aw,?_⟩
    conv=>whnf
    exact⟨rfl,(i+1,.slice oa ol oc),T1,⟨Q,by show i+1<=h.cl;omega,cells,t,by show Xn _ _ ((b.ordsTo k o (i+1)).map Qae);rw[skip P];exact E⟩,L1⟩
   |false=>
   refine⟨_,a1.sees3 (o:=1) rfl,ad,i,⟨bh,rfl,a6⟩,_,(bk.lg Qp).cell (i:=3) rfl,Zpg.any,(Zp6 aa pa al ac o.length pc c.af (Qae o) (ha.lg Qp) (an.lg Qp) bc O1).go λ _=>?_⟩;rw[Bk.aft_all ap hx];cases ht:(Je b.A i).all λ k=>o.contains k with
   |false=>
    have P:b.can o i=false:=by unfold Bk.can;rw[g,ht];rfl
    refine⟨aw,?_⟩
    conv=>whnf
    exact⟨rfl,(i+1,.slice oa ol oc),T1,⟨Q,by show i+1<=h.cl;omega,cells,t,by show Xn _ _ ((b.ordsTo k o (i+1)).map Qae);rw[skip P];exact E⟩,L1⟩
   |true=>
   have P:b.can o i=true:=by unfold Bk.can;rw[g,ht];rfl
   rw[P,if_pos rfl]at N
   conv=>whnf
   intro bp ao
   refine SQ (mu:=[]) (ops:=Pl Tryz.f82 8) (id:=8) ao [2,4,6,7,8] [[0,1,3,5,2,4,6,7,8],[0,1,3,5,2,6,4,7,8],[0,1,3,5,6,2,4,7,8]] [9,10] Zg4 Zqj Qf K1 K1 K1 K1 K1
    (λ f' a0 U'=>a0=[]/\∃a c C,XF f' [(1,.slice pa o.length pc),(2,.pointer (some ⟨B,0,none⟩)),(6,.int .i64 i),(38,.slice oa ol oc),(46,.slice a C.length c)]/\QS U'.frz a C/\(∀ad,a=some ad->ad.spot=none)/\Xn U' C ((b.ords k (o++[i])).map Qae)/\F.le U') ?_ ?_
   .intro l hl;simp only[Zg4,mem_cons,not_mem_nil,or_false]at hl;rcases hl with rfl|rfl|rfl
    .refine⟨_,⟨rfl,Z.rd⟩,?_⟩;refine⟨λ v U'=>Qcf F [] v U',λ v J x2 g d=>g.le d,λ v U' g=>g.2.1,λ U' j=>?_,λ v z=>?_⟩
     .conv=>whnf
      intro p hp;exact⟨_,.refl _,_,.refl _,.new j⟩
     obtain⟨_,⟨ae,aj,ah,rfl⟩,-,-⟩:=z;refine⟨λ v U'=>Qcf F (Qae o) v U',λ v J x2 g d=>g.le d,λ v U' g=>g.2.1,λ U' j=>?_,λ v z=>?_⟩
     .conv=>whnf
      refine Ws (v:=.slice ae aj ah) (cs:=([]:List Int).map λ n=>.int .i64 n) (new:=(Qae o).map λ n=>.int .i64 n) (M₀:=F.M) Hf rfl rfl j.2.2 ((an.lg j.2.1.frz2).lg Qp).src' (by simp[Qae]) (by simp[Value.single]) (by simp[Qae];omega) λ v' M' q _=>?_;obtain⟨ta,tl,tc,rfl,-⟩:=Acc.src (U:={ U' with M:=M' }) q;exact⟨_,.refl _,⟨⟨_,_,_,rfl⟩,⟨j.2.1.imm,⟨_,(append_nil _).symm⟩,j.2.1.tok⟩,by simpa using q⟩⟩
     obtain⟨_,⟨ag,ak,ai,rfl⟩,-,-⟩:=z;refine⟨λ v U'=>(∃p,v=.slice (some ⟨p,0,none⟩) 1 1/\Qcf F (Qae o) (.slice ag ak ai) U'/\Zi U' p #[.int .i64 i]),λ v J x2 g d=>let ⟨p,e,D,H⟩:=g;⟨p,e,D.le d,H.le d⟩,λ v U' g=>let ⟨_,_,D,_⟩:=g;D.2.1,λ U' j=>?_,λ v z=>?_⟩
     .conv=>whnf
      intro p hp;exact Zk hp λ J k1 V=>⟨J,.refl _,p,rfl,j.le k1,V⟩
     obtain⟨_,G,rfl,-,-⟩:=z;refine⟨λ v U'=>Qcf F (Qae (o++[i])) v U'/\Zi U' G #[.int .i64 i],λ v J x2 g d=>⟨g.1.le d,g.2.le d⟩,λ v U' g=>g.1.2.1,λ U' j=>?_,λ v z=>?_⟩
     .obtain⟨p',e,j,hb44⟩:=j;obtain rfl:G=p':=by simpa using e
      conv=>whnf
      refine Ws (v:=.slice ag ak ai) (cs:=(Qae o:List Int).map λ n=>.int .i64 n) (new:=[.int .i64 (i:Int)]) (M₀:=F.M) Hf rfl rfl j.2.2 (.inr ⟨_,rfl,hb44.rd⟩) (rfl) (by simp[Value.single]) (by simp[Qae];omega) λ v' M' q _=>?_;obtain⟨ta,tl,tc,rfl,-⟩:=Acc.src (U:={ U' with M:=M' }) q;exact⟨_,.refl _,⟨⟨⟨_,_,_,rfl⟩,⟨j.2.1.imm,⟨_,(append_nil _).symm⟩,j.2.1.tok⟩,by simpa[Qae,map_append]using q⟩,hb44⟩⟩
     obtain⟨_,⟨⟨ay,a7,az,rfl⟩,-,-⟩,-⟩:=z;refine⟨λ v U'=>Zm0 U' v ((b.ords k (o++[i])).map Qae)/\F.le U',λ v J x2⟨⟨a,c,cells,e,D,H,h3⟩,h4⟩d=>⟨⟨a,c,cells,e,D.lgs d.lg.frz2,H,h3.lg d.lg.frz2⟩,h4.trans d⟩,λ v U' g=>Qp.trans g.2.lg,λ U' j=>?_,λ v z=>?_⟩
     .obtain⟨j,-⟩:=j;refine⟨Qpf.any,(Qcf.give (xs:=λ v=>#[h.v,v]) j λ U4 ga O e d w=>?_).mono λ v U' z _=>⟨U',.refl _,z⟩⟩;rw[e];have:=ih (o++[i]) U4 (ab.lg d.lg.frz2) ga O (by rw[length_map]at w;exact w) (by rw[length_append,length_singleton];omega);rw[show(Qae (o++[i])).length=(o++[i]).length by simp[Qae]];exact this.mono λ v U'⟨D,H⟩=>⟨D,d.trans H⟩
     obtain⟨_,⟨K,L,cells,rfl,-⟩,-⟩:=z
     conv=>whnf
     rintro U'⟨⟨a,c,C,e,D,H,h3⟩,h4⟩;obtain⟨rfl,e2,rfl⟩:K=a/\cells.length=C.length/\L=c:=by simpa using e
     refine⟨rfl,K,L,C,⟨rfl,rfl,rfl,rfl,?_,trivial⟩,D,H,h3,h4⟩;rw[<- e2];rfl
    .refine⟨_,⟨rfl,Z.rd⟩,?_⟩;refine⟨λ v U'=>Qcf F [] v U',λ v J x2 g d=>g.le d,λ v U' g=>g.2.1,λ U' j=>?_,λ v z=>?_⟩
     .conv=>whnf
      intro p hp;exact⟨_,.refl _,_,.refl _,.new j⟩
     obtain⟨_,⟨ae,aj,ah,rfl⟩,-,-⟩:=z;refine⟨λ v U'=>(∃p,v=.slice (some ⟨p,0,none⟩) 1 1/\Qcf F [] (.slice ae aj ah) U'/\Zi U' p #[.int .i64 i]),λ v J x2 g d=>let ⟨p,e,D,H⟩:=g;⟨p,e,D.le d,H.le d⟩,λ v U' g=>let ⟨_,_,D,_⟩:=g;D.2.1,λ U' j=>?_,λ v z=>?_⟩
     .conv=>whnf
      intro p hp;exact Zk hp λ J k1 V=>⟨J,.refl _,p,rfl,j.le k1,V⟩
     obtain⟨_,G,rfl,-,-⟩:=z;refine⟨λ v U'=>Qcf F (Qae o) v U'/\Zi U' G #[.int .i64 i],λ v J x2 g d=>⟨g.1.le d,g.2.le d⟩,λ v U' g=>g.1.2.1,λ U' j=>?_,λ v z=>?_⟩
     .obtain⟨p',e,j,hb44⟩:=j;obtain rfl:G=p':=by simpa using e
      conv=>whnf
      refine Ws (v:=.slice ae aj ah) (cs:=([]:List Int).map λ n=>.int .i64 n) (new:=(Qae o).map λ n=>.int .i64 n) (M₀:=F.M) Hf rfl rfl j.2.2 ((an.lg j.2.1.frz2).lg Qp).src' (by simp[Qae]) (by simp[Value.single]) (by simp[Qae];omega) λ v' M' q _=>?_;obtain⟨ta,tl,tc,rfl,-⟩:=Acc.src (U:={ U' with M:=M' }) q;exact⟨_,.refl _,⟨⟨⟨_,_,_,rfl⟩,⟨j.2.1.imm,⟨_,(append_nil _).symm⟩,j.2.1.tok⟩,by simpa using q⟩,hb44⟩⟩
     obtain⟨_,⟨⟨ag,ak,ai,rfl⟩,-,-⟩,-⟩:=z;refine⟨λ v U'=>Qcf F (Qae (o++[i])) v U'/\Zi U' G #[.int .i64 i],λ v J x2 g d=>⟨g.1.le d,g.2.le d⟩,λ v U' g=>g.1.2.1,λ U' j=>?_,λ v z=>?_⟩
     .obtain⟨j,hb44⟩:=j
      conv=>whnf
      refine Ws (v:=.slice ag ak ai) (cs:=(Qae o:List Int).map λ n=>.int .i64 n) (new:=[.int .i64 (i:Int)]) (M₀:=F.M) Hf rfl rfl j.2.2 (.inr ⟨_,rfl,hb44.rd⟩) (rfl) (by simp[Value.single]) (by simp[Qae];omega) λ v' M' q _=>?_;obtain⟨ta,tl,tc,rfl,-⟩:=Acc.src (U:={ U' with M:=M' }) q;exact⟨_,.refl _,⟨⟨⟨_,_,_,rfl⟩,⟨j.2.1.imm,⟨_,(append_nil _).symm⟩,j.2.1.tok⟩,by simpa[Qae,map_append]using q⟩,hb44⟩⟩
     obtain⟨_,⟨⟨ay,a7,az,rfl⟩,-,-⟩,-⟩:=z;refine⟨λ v U'=>Zm0 U' v ((b.ords k (o++[i])).map Qae)/\F.le U',λ v J x2⟨⟨a,c,cells,e,D,H,h3⟩,h4⟩d=>⟨⟨a,c,cells,e,D.lgs d.lg.frz2,H,h3.lg d.lg.frz2⟩,h4.trans d⟩,λ v U' g=>Qp.trans g.2.lg,λ U' j=>?_,λ v z=>?_⟩
     .obtain⟨j,-⟩:=j;refine⟨Qpf.any,(Qcf.give (xs:=λ v=>#[h.v,v]) j λ U4 ga O e d w=>?_).mono λ v U' z _=>⟨U',.refl _,z⟩⟩;rw[e];have:=ih (o++[i]) U4 (ab.lg d.lg.frz2) ga O (by rw[length_map]at w;exact w) (by rw[length_append,length_singleton];omega);rw[show(Qae (o++[i])).length=(o++[i]).length by simp[Qae]];exact this.mono λ v U'⟨D,H⟩=>⟨D,d.trans H⟩
     obtain⟨_,⟨K,L,cells,rfl,-⟩,-⟩:=z
     conv=>whnf
     rintro U'⟨⟨a,c,C,e,D,H,h3⟩,h4⟩;obtain⟨rfl,e2,rfl⟩:K=a/\cells.length=C.length/\L=c:=by simpa using e
     refine⟨rfl,K,L,C,⟨rfl,rfl,rfl,rfl,?_,trivial⟩,D,H,h3,h4⟩;rw[<- e2];rfl
    .refine⟨_,⟨rfl,Z.rd⟩,?_⟩;refine⟨λ v U'=>(∃p,v=.slice (some ⟨p,0,none⟩) 1 1/\F.le U'/\Zi U' p #[.int .i64 i]),λ v J x2 g d=>let ⟨p,e,D,H⟩:=g;⟨p,e,D.trans d,H.le d⟩,λ v U' g=>let ⟨_,_,D,_⟩:=g;Qp.trans D.lg,λ U' j=>?_,λ v z=>?_⟩
     .conv=>whnf
      intro p hp;exact Zk hp λ J k1 V=>⟨J,.refl _,p,rfl,j.trans k1,V⟩
     obtain⟨_,G,rfl,-,-⟩:=z;refine⟨λ v U'=>Qcf F [] v U'/\Zi U' G #[.int .i64 i],λ v J x2 g d=>⟨g.1.le d,g.2.le d⟩,λ v U' g=>g.1.2.1,λ U' j=>?_,λ v z=>?_⟩
     .obtain⟨p',e,j,hb44⟩:=j;obtain rfl:G=p':=by simpa using e
      conv=>whnf
      intro p hp;exact⟨_,.refl _,_,.refl _,⟨.new j,hb44.lg (Z4 p _)⟩⟩
     obtain⟨_,⟨⟨ae,aj,ah,rfl⟩,-,-⟩,-⟩:=z;refine⟨λ v U'=>Qcf F (Qae o) v U'/\Zi U' G #[.int .i64 i],λ v J x2 g d=>⟨g.1.le d,g.2.le d⟩,λ v U' g=>g.1.2.1,λ U' j=>?_,λ v z=>?_⟩
     .obtain⟨j,hb44⟩:=j
      conv=>whnf
      refine Ws (v:=.slice ae aj ah) (cs:=([]:List Int).map λ n=>.int .i64 n) (new:=(Qae o).map λ n=>.int .i64 n) (M₀:=F.M) Hf rfl rfl j.2.2 ((an.lg j.2.1.frz2).lg Qp).src' (by simp[Qae]) (by simp[Value.single]) (by simp[Qae];omega) λ v' M' q _=>?_;obtain⟨ta,tl,tc,rfl,-⟩:=Acc.src (U:={ U' with M:=M' }) q;exact⟨_,.refl _,⟨⟨⟨_,_,_,rfl⟩,⟨j.2.1.imm,⟨_,(append_nil _).symm⟩,j.2.1.tok⟩,by simpa using q⟩,hb44⟩⟩
     obtain⟨_,⟨⟨ag,ak,ai,rfl⟩,-,-⟩,-⟩:=z;refine⟨λ v U'=>Qcf F (Qae (o++[i])) v U'/\Zi U' G #[.int .i64 i],λ v J x2 g d=>⟨g.1.le d,g.2.le d⟩,λ v U' g=>g.1.2.1,λ U' j=>?_,λ v z=>?_⟩
     .obtain⟨j,hb44⟩:=j
      conv=>whnf
      refine Ws (v:=.slice ag ak ai) (cs:=(Qae o:List Int).map λ n=>.int .i64 n) (new:=[.int .i64 (i:Int)]) (M₀:=F.M) Hf rfl rfl j.2.2 (.inr ⟨_,rfl,hb44.rd⟩) (rfl) (by simp[Value.single]) (by simp[Qae];omega) λ v' M' q _=>?_;obtain⟨ta,tl,tc,rfl,-⟩:=Acc.src (U:={ U' with M:=M' }) q;exact⟨_,.refl _,⟨⟨⟨_,_,_,rfl⟩,⟨j.2.1.imm,⟨_,(append_nil _).symm⟩,j.2.1.tok⟩,by simpa[Qae,map_append]using q⟩,hb44⟩⟩
     obtain⟨_,⟨⟨ay,a7,az,rfl⟩,-,-⟩,-⟩:=z;refine⟨λ v U'=>Zm0 U' v ((b.ords k (o++[i])).map Qae)/\F.le U',λ v J x2⟨⟨a,c,cells,e,D,H,h3⟩,h4⟩d=>⟨⟨a,c,cells,e,D.lgs d.lg.frz2,H,h3.lg d.lg.frz2⟩,h4.trans d⟩,λ v U' g=>Qp.trans g.2.lg,λ U' j=>?_,λ v z=>?_⟩
     .obtain⟨j,-⟩:=j;refine⟨Qpf.any,(Qcf.give (xs:=λ v=>#[h.v,v]) j λ U4 ga O e d w=>?_).mono λ v U' z _=>⟨U',.refl _,z⟩⟩;rw[e];have:=ih (o++[i]) U4 (ab.lg d.lg.frz2) ga O (by rw[length_map]at w;exact w) (by rw[length_append,length_singleton];omega);rw[show(Qae (o++[i])).length=(o++[i]).length by simp[Qae]];exact this.mono λ v U'⟨D,H⟩=>⟨D,d.trans H⟩
     obtain⟨_,⟨K,L,cells,rfl,-⟩,-⟩:=z
     conv=>whnf
     rintro U'⟨⟨a,c,C,e,D,H,h3⟩,h4⟩;obtain⟨rfl,e2,rfl⟩:K=a/\cells.length=C.length/\L=c:=by simpa using e
     refine⟨rfl,K,L,C,⟨rfl,rfl,rfl,rfl,?_,trivial⟩,D,H,h3,h4⟩;rw[<- e2];rfl
   rintro f' a0 U4⟨rfl,K,L,C,a4,R,bo,X,d⟩;rw[<- a4.ovr];clear a4;have bs:=Bk.ordsTo_len ap (k:=k) O1 o (m:=i) O1;have bi:=Bk.ordsTo_len ap (k:=k) O1 o (m:=i+1) O1;have bf:=E.1;have bg:=X.1;rw[length_map]at bf bg;rw[N,length_append]at bi
   conv=>whnf
   refine Ws (v:=.slice oa ol oc) (cs:=cells) (new:=C) (M₀:=U.M) jz rfl rfl (by rw[d.own];exact t) (R.lgs Qp) (by rw[Nat.mul_one]) X.single O1 λ v' M' q _=>?_;obtain⟨ta,tl,tc,rfl,-⟩:=Acc.src (U:={ U4 with M:=M' }) q
   conv=>whnf
   intro a' ar;refine⟨by rw[ar.size,ao.size],_,ar.get,?_⟩;rw[ar.ds];clear ar ao;refine⟨aw,?_⟩
   conv=>whnf
   have av:=Q.trans d.lg;exact⟨rfl,(i+1,.slice ta tl tc),T1,⟨⟨av.imm,⟨_,(append_nil _).symm⟩,av.tok⟩,by show i+1<=h.cl;omega,cells++C,q,by show Xn _ _ ((b.ordsTo k o (i+1)).map Qae);rw[N,map_append];exact((E.lg d.lg.frz2).app X).lg ⟨λ _ _ h=>h,⟨[],rfl⟩,rfl⟩⟩,L1⟩
  refine aq.sep λ v U' hs⟨cells,t,E,hI,ht⟩=>?_;obtain⟨Y,k1,V,a,len,cap,rfl,hl,R,au,-⟩:=Acc.freeze (U:={ U' with M:=U.M }) hs t (λ _ _ h=>h) rfl;have hz:U'.frz.lg Y.frz:=⟨V.imm,⟨[],rfl⟩,V.tok⟩;exact⟨Y,k1,⟨a,cap,cells,by rw[hl,Nat.mul_one],R,au,E.lg hz⟩,⟨λ x u hx=>V.imm x u (hI x u hx),V.own,V.tok.trans ht⟩⟩
end Go.Proofs
namespace Go.TM
variable{T:Type}{U U':Qa T}
def Qga(l:List Nat):List Value:=l.map λ n=>.int .i64 (n:Nat)
def Zqp(l:List Nat):(Qga l).length=l.length:=by simp[Qga]
def Zl2{l:List Nat}{i:Nat}(h:i<l.length):(Qga l)[i]?=some (.int .i64 (l.getD i 0:Nat)):=by
 simp[Qga,getD_eq_getElem?_getD,h]
def Zqq(l:List Nat)(i n:Nat):(Qga l).toArray.setIfInBounds i (.int .i64 (n:Nat))=(Qga (l.set i n)).toArray:=by
 simp[Qga,map_set]
def Q4x(n:Nat):(replicate n (Value.int .i64 0)).toArray=(Qga (replicate n 0)).toArray:=by simp[Qga]
end Go.TM
namespace Go.Proofs
open Go.TM
def Zg3:List (List (Nat×St)):=[[(0,.xo 18 0 1),(0,.xl 19 18),(0,.xn 20 19),(0,.xo 22 1 1),(0,.xl 23 22),(0,.xn 24 23),(2,.d 21 (.raw { dst:=none,op:=(.makeSlice 26 (.t 20) (.t 20)),type:=26,pos := "", after:=#[],guard:=none })),(0,.m 5 21),(2,.d 25 (.raw { dst:=none,op:=(.makeSlice 26 (.t 24) (.t 24)),type:=26,pos := "", after:=#[],guard:=none }))],
 [(0,.xo 18 0 1),(0,.xl 19 18),(0,.xn 20 19),(0,.xo 22 1 1),(0,.xl 23 22),(0,.xn 24 23),(2,.d 25 (.raw { dst:=none,op:=(.makeSlice 26 (.t 24) (.t 24)),type:=26,pos := "", after:=#[],guard:=none })),(2,.d 21 (.raw { dst:=none,op:=(.makeSlice 26 (.t 20) (.t 20)),type:=26,pos := "", after:=#[],guard:=none })),(0,.m 5 21)]]
def Zqi:List St:=[.m 6 25]
variable{T:Type}{S:TM.Sys prog T}{U:Qa T}
attribute [local irreducible] Qb Zl Wt
def Q4u(a n:Nat):Qb S 131 #[.int .i64 a,.int .i64 n] (λ v U'=>v=.int .i64 (H9 a n)/\U'=U) U:=by
 refine Qb.of (args:=[_,_]) Q41 Qf S1 ?_
 repeat refine⟨rfl,?_⟩
 conv=>whnf
 apply Qe<;>intro b
 .have e:a=n:=by simp at b;omega
  repeat refine⟨rfl,?_⟩
  conv=>whnf
  exact⟨by unfold H9;rw[if_pos e],rfl⟩
 have e:a≠n:=by simp at b;omega
 repeat refine⟨rfl,?_⟩
 conv=>whnf
 apply Qe<;>intro b
 .have e0:a=0:=by simp at b;omega
  repeat refine⟨rfl,?_⟩
  conv=>whnf
  exact⟨by unfold H9;rw[if_neg e,if_pos e0],rfl⟩
 .have e0:a≠0:=by simp at b;omega
  repeat refine⟨rfl,?_⟩
  conv=>whnf
  exact⟨by unfold H9;rw[if_neg e,if_neg e0],rfl⟩
def Zrq:∃b,prog.info? 3=some b/\b.zero=some (.int .i64 0)/\b.size=1/\b.bytes<=64:=by
 have d:(prog.info? 3).map (·.zero)=some (some (.int .i64 0)):=K1
 have e:(prog.info? 3).map (·.size)=some 1:=K1
 have f:(prog.info? 3).map (λ i=>decide (i.bytes<=64))=some true:=K1
 cases h:prog.info? 3 with
 |none=>rw[h]at d;cases d
 |some b=>
  rw[h]at d e f;exact⟨b,rfl,Option.some.inj d,Option.some.inj e,by simpa using f⟩
set_option maxHeartbeats 4000000 in
def Qp5(h:BH)(b:Bk)(hb:Zq U.frz h b)(aq:b.Ok):Qb S 78 #[h.v] (λ v U'=>(∃v1 v2,v=.tuple #[v1,v2]/\Jd U'.frz v1 b.fatesR/\Jd U'.frz v2 b.fatesC)/\U.le U') U:=by
 have ao:=hb.cs.1;have bk:=hb.rs.1;have ce:=aq.nr;have bv:=aq.nc;obtain⟨i3,ar,au,av,aw⟩:=Zrq
 let K:List Nat->Nat->Bool:=λ o r=>(b.ends o).1.getD r false
 let D:List Nat->Nat->Bool:=λ o r=>(b.ends o).2.getD r false
 have bp:Qb S 78 #[h.v] (λ v U'=>∃v1 v2 O A2 Y,v=.tuple #[v1,v2]/\Jw 51 1 v1 (b.fatesR.map λ n=>.int .i64 n) O/\Jw 51 1 v2 (b.fatesC.map λ n=>.int .i64 n) A2/\U'.M=A2++(O++(Y++U.M))/\(∀x o,U.I x=some o->U'.I x=some o)/\U'.tok=U.tok) U:=by
  refine Qb.of (args:=[_]) Zod Qf S1 ?_
  repeat refine⟨rfl,?_⟩
  conv=>whnf
  intro B U1 an hB;have hB:Zi U1 B #[.slice h.ra h.rl h.rc,.slice h.ca h.cl h.cc]:=hB;have bd:=hb.lg an.lg.frz2;refine⟨_,⟨rfl,hB.rd⟩,?_⟩;refine⟨Qpf.any,(Zm6 h b aq ao h.cl [] U1 bd none 0 ⟨rfl,λ i x g=>by simp[Qae]at g⟩ S1).mono ?_⟩;rintro _ J⟨⟨la,lc,cells,rfl,bm,bl,ah⟩,af⟩-;have bc:b.ords h.cl []=b.all:=by unfold Bk.all;rw[ao]
  rw[bc]at ah;have hn:cells.length=b.all.length:=by rw[ah.1];simp
  have hL:J3 J.frz la b.all.length (b.all.map Qae):=by have:=ah.lists bm bl;rwa [length_map]at this
  have bs:=b.all_le bv;generalize cells.length=n at hn ⊢;have bq:Zi J B #[.slice h.ra h.rl h.rc,.slice h.ca h.cl h.cc]:=hB.lg af.lg;have ae:Zi J.frz B #[.slice h.ra h.rl h.rc,.slice h.ca h.cl h.cc]:=bq;have be:=bd.lg af.lg.frz2
  let MM:Nat->Nat->List Nat->List Nat->List Qx:=λ xb m s w=>.obj m (.cells (Qga w).toArray 3 (0,0))::.obj xb (.cells (Qga s).toArray 3 (0,0))::J.M
  conv=>whnf
  intro b8 ai
  refine SQ (mu:=[]) (ops:=Pl Tryz.f78 2) (id:=2) ai [3,7] [[0,1,2,4,5,6,3,8,7],[0,1,2,4,5,6,7,3,8]] [9] Zg3 Zqi Qf K1 K1 K1 K1 K1
   (λ f' a9 U'=>a9=[]/\∃xb m,XF f' [(1,.pointer (some ⟨B,0,none⟩)),(4,.slice la n lc),(5,.slice (some ⟨xb,0,none⟩) h.rl h.rl),(25,.slice (some ⟨m,0,none⟩) h.cl h.cl)]/\J.frz.lg U'/\U'.M=MM xb m (replicate h.rl 0) (replicate h.cl 0)) ?_ ?_
  .intro l N;simp only[Zg3,mem_cons,not_mem_nil,or_false]at N;rcases N with rfl|rfl
   .refine⟨_,ae.sees3 (o:=0) rfl,_,ae.sees3 (o:=1) rfl,λ v U'=>∃p,v=.slice (some ⟨p,0,none⟩) h.rl h.rl/\J.frz.lg U'/\U'.M=.obj p (.cells (Qga (replicate h.rl 0)).toArray 3 (0,0))::J.M,λ v x1 x2⟨rb,e,N,W⟩d=>⟨rb,e,N.trans d.lg,d.own.trans W⟩,λ v U'⟨rb,e,N,W⟩=>N,λ U' hC=>?_,λ v hv=>?_⟩
    .conv=>whnf
     refine EK (n:=h.rl) Pf ar au rfl av aw rfl rfl O1 λ rb bw=>?_;refine⟨_,.refl _,rb,rfl,⟨λ x o g=>hC.imm x o g,⟨_,(append_nil _).symm⟩,hC.tok⟩,?_⟩;show _::U'.M=_;rw[hC.own,Q4x]
    obtain⟨_,xb,rfl,-⟩:=hv;refine⟨λ v U'=>∃p,v=.slice (some ⟨p,0,none⟩) h.cl h.cl/\J.frz.lg U'/\U'.M=MM xb p (replicate h.rl 0) (replicate h.cl 0),λ v x1 x2⟨rb,e,N,W⟩d=>⟨rb,e,N.trans d.lg,d.own.trans W⟩,λ v U'⟨rb,e,N,W⟩=>N,λ U' hC=>?_,λ v hv=>?_⟩
    .obtain⟨rb',e,G,q⟩:=hC;obtain rfl:xb=rb':=by simpa using e
     conv=>whnf
     refine EK (n:=h.cl) Pf ar au rfl av aw rfl rfl O1 λ wb b1=>?_;refine⟨_,W7 (M':=MM xb wb (replicate h.rl 0) (replicate h.cl 0)) ?_,wb,rfl,⟨λ x o g=>G.imm x o g,⟨_,(append_nil _).symm⟩,G.tok⟩,rfl⟩;show(_::U'.M).Perm _;rw[q,Q4x]
    obtain⟨_,m,rfl,-⟩:=hv
    conv=>whnf
    rintro U'⟨a8,e,G,q⟩;obtain rfl:m=a8:=by simpa using e
    exact⟨rfl,xb,m,T1,G,q⟩
   .refine⟨_,ae.sees3 (o:=0) rfl,_,ae.sees3 (o:=1) rfl,λ v U'=>∃p,v=.slice (some ⟨p,0,none⟩) h.cl h.cl/\J.frz.lg U'/\U'.M=.obj p (.cells (Qga (replicate h.cl 0)).toArray 3 (0,0))::J.M,λ v x1 x2⟨rb,e,N,W⟩d=>⟨rb,e,N.trans d.lg,d.own.trans W⟩,λ v U'⟨rb,e,N,W⟩=>N,λ U' hC=>?_,λ v hv=>?_⟩
    .conv=>whnf
     refine EK (n:=h.cl) Pf ar au rfl av aw rfl rfl O1 λ rb bw=>?_;refine⟨_,.refl _,rb,rfl,⟨λ x o g=>hC.imm x o g,⟨_,(append_nil _).symm⟩,hC.tok⟩,?_⟩;show _::U'.M=_;rw[hC.own,Q4x]
    obtain⟨_,m,rfl,-⟩:=hv;refine⟨λ v U'=>∃p,v=.slice (some ⟨p,0,none⟩) h.rl h.rl/\J.frz.lg U'/\U'.M=MM p m (replicate h.rl 0) (replicate h.cl 0),λ v x1 x2⟨rb,e,N,W⟩d=>⟨rb,e,N.trans d.lg,d.own.trans W⟩,λ v U'⟨rb,e,N,W⟩=>N,λ U' hC=>?_,λ v hv=>?_⟩
    .obtain⟨rb',e,G,q⟩:=hC;obtain rfl:m=rb':=by simpa using e
     conv=>whnf
     refine EK (n:=h.rl) Pf ar au rfl av aw rfl rfl O1 λ wb b1=>?_;refine⟨_,W7 (M':=MM wb m (replicate h.rl 0) (replicate h.cl 0)) ?_,wb,rfl,⟨λ x o g=>G.imm x o g,⟨_,(append_nil _).symm⟩,G.tok⟩,rfl⟩;show(_::U'.M).Perm _;rw[q,Q4x];exact Perm.swap _ _ _
    obtain⟨_,xb,rfl,-⟩:=hv
    conv=>whnf
    rintro U'⟨a8,e,G,q⟩;obtain rfl:xb=a8:=by simpa using e
    exact⟨rfl,xb,m,T1,G,q⟩
  rintro f' a9 U3⟨rfl,xb,m,bf,bj,Q⟩;rw[<- bf.ovr];clear bf
  conv=>whnf
  intro a' ap;refine⟨by rw[ap.size,ai.size],_,ap.get,?_⟩;rw[ap.ds];clear ap ai;refine⟨Nat,λ k=>[(1,.pointer (some ⟨B,0,none⟩)),(4,.slice la n lc),(5,.slice (some ⟨xb,0,none⟩) h.rl h.rl),(6,.slice (some ⟨m,0,none⟩) h.cl h.cl),(7,.int .i64 k)],λ k U'=>J.frz.lg U'/\k<=n/\U'.M=MM xb m (Qaq b.all K h.rl k 0) (Qaq b.all D h.cl k 0),λ k=>n-k,0,T1,⟨bj,O1,by rw[Zpp,Zpp];exact Q⟩,?_⟩;rintro k f U3⟨ab,cb,Q⟩;have bg:Zu ((k:Int)+1):=I1
  repeat refine⟨rfl,?_⟩
  conv=>whnf
  apply Qe<;>intro hc
  .have hltk:k<n:=by simpa using hc
   obtain⟨o,ac⟩:∃o,b.all[k]?=some o:=⟨_,getElem?_eq_getElem O1⟩;have ho:=Bk.mem_all_iff.1 (mem_of_getElem? ac);obtain⟨ad,l,ga,gl,gc,bo,bt,b7,bx,ax,b9,cd⟩:=hL.at (show k<b.all.length by omega);obtain rfl:Qae o=l:=by rw[getElem?_map,ac]at bo;exact Option.some.inj bo
   have a4:=ax.1;obtain rfl:o.length=gl:=by rw[<- a4];simp[Qae]
   have cf:=ho.len;refine⟨_,⟨rfl,(ae.lg ab).rd⟩,?_⟩;refine⟨ad,k,⟨bt,rfl,hltk⟩,_,bx.lg ab,λ v U'=>∃sa sc wa wc,v=.tuple #[.slice sa h.rl sc,.slice wa h.cl wc]/\(∀(i:Nat)x,(b.ends o).1[i]?=some x->∃ad,sa=some ad/\ad.spot=none/\U'.frz.sees (ad.add (i*1)) (.bool x))/\(∀(i:Nat)x,(b.ends o).2[i]?=some x->∃ad,wa=some ad/\ad.spot=none/\U'.frz.sees (ad.add (i*1)) (.bool x)),λ v x1 x2⟨sa,sc,wa,wc,e,q1,q2⟩d=>⟨sa,sc,wa,wc,e,(λ i x g=>let ⟨ad,a1,a2,a3⟩:=q1 i x g;⟨ad,a1,a2,a3.lg d.lg.frz2⟩),λ i x g=>let ⟨ad,a1,a2,a3⟩:=q2 i x g;⟨ad,a1,a2,a3.lg d.lg.frz2⟩⟩,λ U' d _=>?_,λ v hv=>?_⟩
   .refine⟨Zqm.any,(Zp2 h b (be.lg (ab.frz2.trans d.lg.frz2)) aq ga gc o (ax.lg (ab.frz2.trans d.lg.frz2)) ho.low O1).mono ?_⟩;rintro _ U'⟨⟨_,_,rfl,⟨sa,sc,rfl,q1⟩,⟨wa,wc,rfl,q2⟩⟩,bi⟩-;rw[(b.end_len o).1,(b.end_len o).2,bk,ao];exact⟨_,.refl _,⟨sa,sc,wa,wc,rfl,q1,q2⟩,bi⟩
   obtain⟨_,-,-,sa,sc,wa,wc,rfl,-⟩:=hv
   conv=>whnf
   intro U4 bb hC;obtain⟨-,b2,b3,b5,b6,e,hS,hW⟩:=hC;obtain⟨⟨rfl,rfl⟩,rfl,rfl⟩:(sa=b2/\sc=b3)/\wa=b5/\wc=b6:=by simpa using e
   have bu:=ab.trans bb.lg;have br:=bb.own.trans Q;refine⟨Nat,λ i=>[(1,.pointer (some ⟨B,0,none⟩)),(4,.slice la n lc),(5,.slice (some ⟨xb,0,none⟩) h.rl h.rl),(6,.slice (some ⟨m,0,none⟩) h.cl h.cl),(7,.int .i64 k),(8,.slice sa h.rl sc),(9,.slice wa h.cl wc),(10,.int .i64 i)],λ i U'=>J.frz.lg U'/\i<=h.rl/\U'.M=MM xb m (Qaq b.all K h.rl k i) (Qaq b.all D h.cl k 0)/\U4.frz.lg U',λ i=>h.rl-i,0,T1,⟨bu,O1,br,Qp⟩,?_⟩;rintro i f U5⟨H,hi,t,C⟩;have V:Zu ((i:Int)+1):=I1
   repeat refine⟨rfl,?_⟩
   conv=>whnf
   apply Qe<;>intro hc
   .have hlt:i<h.rl:=by simpa using hc
    obtain⟨x,g⟩:∃x,(b.ends o).1[i]?=some x:=⟨_,getElem?_eq_getElem (by rw[(b.end_len o).1];omega)⟩;obtain⟨a0,a6,-,a7⟩:=hS i x g;have aj:(b.ends o).1.getD i false=x:=by simp[getD_eq_getElem?_getD,g]
    refine⟨a0,i,⟨a6,rfl,hlt⟩,_,a7.lg C,?_⟩;cases x with
    |false=>
     have hk:=Zpj (L:=b.all) (F:=K) (n:=h.rl) (k:=k) (i:=i) ac aj;refine⟨V,?_⟩
     conv=>whnf
     exact⟨rfl,i+1,T1,⟨H,O1,by rw[t,hk],C⟩,L1⟩
    |true=>
     have hk:=Zqs (L:=b.all) (F:=K) (n:=h.rl) (k:=k) (i:=i) ac hlt aj;have T:(Qaq b.all K h.rl k i).length=h.rl:=Qdc;have d:=Zq0 (L:=b.all) (F:=K) (n:=h.rl) (k:=k) (i:=i) hlt;have Z:U5.sees ((Addr.mk xb 0 none).add (i*1)) (.int .i64 ((Qaq b.all K h.rl k i).getD i 0:Nat)):=by rw[Nat.mul_one];exact Za [.obj m (.cells (Qga (Qaq b.all D h.cl k 0)).toArray 3 (0,0))] t _ _ (Zl2 (by rw[T];exact hlt))
     refine⟨_,i,⟨rfl,rfl,hlt⟩,_,Z,I1,?_⟩;rw[show(((Qaq b.all K h.rl k i).getD i 0:Nat):Int)+1=(((Qaq b.all K h.rl k i).getD i 0+1:Nat):Int) by omega];refine⟨_,i,⟨rfl,rfl,hlt⟩,rfl,?_⟩;rw[Nat.mul_one];refine WS (i:=i) (b:=xb) (v:=.int .i64 (((Qaq b.all K h.rl k i).getD i 0+1:Nat):Int)) (c:=(Qga (Qaq b.all K h.rl k i)).toArray) [.obj m (.cells (Qga (Qaq b.all D h.cl k 0)).toArray 3 (0,0))] t (by rw[size_toArray,Zqp,T];exact hlt) rfl λ x1 k1 k2 k3=>?_;rw[Zqq,hk]at k3;refine⟨V,?_⟩
     conv=>whnf
     exact⟨rfl,i+1,T1,⟨⟨λ x o g=>by rw[k1];exact H.imm x o g,⟨_,(append_nil _).symm⟩,k2.trans H.tok⟩,O1,k3,⟨λ x o g=>by rw[k1];exact C.imm x o g,⟨_,(append_nil _).symm⟩,k2.trans C.tok⟩⟩,L1⟩
   have E:i=h.rl:=by simp at hc;omega
   subst E;rw[Zpk]at t;refine⟨Nat,λ i=>[(1,.pointer (some ⟨B,0,none⟩)),(4,.slice la n lc),(5,.slice (some ⟨xb,0,none⟩) h.rl h.rl),(6,.slice (some ⟨m,0,none⟩) h.cl h.cl),(7,.int .i64 k),(9,.slice wa h.cl wc),(11,.int .i64 i)],λ i U'=>J.frz.lg U'/\i<=h.cl/\U'.M=MM xb m (Qaq b.all K h.rl (k+1) 0) (Qaq b.all D h.cl k i)/\U4.frz.lg U',λ i=>h.cl-i,0,T1,⟨H,O1,by rw[t],C⟩,?_⟩;rintro i f U6⟨H,hi,t,C⟩;have V:Zu ((i:Int)+1):=I1
   repeat refine⟨rfl,?_⟩
   conv=>whnf
   apply Qe<;>intro hc
   .have hlt:i<h.cl:=by simpa using hc
    obtain⟨x,g⟩:∃x,(b.ends o).2[i]?=some x:=⟨_,getElem?_eq_getElem (by rw[(b.end_len o).2];omega)⟩;obtain⟨a0,a6,-,a7⟩:=hW i x g;have aj:(b.ends o).2.getD i false=x:=by simp[getD_eq_getElem?_getD,g]
    refine⟨a0,i,⟨a6,rfl,hlt⟩,_,a7.lg C,?_⟩;cases x with
    |false=>
     have hk:=Zpj (L:=b.all) (F:=D) (n:=h.cl) (k:=k) (i:=i) ac aj;refine⟨V,?_⟩
     conv=>whnf
     exact⟨rfl,i+1,T1,⟨H,O1,by rw[t,hk],C⟩,L1⟩
    |true=>
     have hk:=Zqs (L:=b.all) (F:=D) (n:=h.cl) (k:=k) (i:=i) ac hlt aj;have T:(Qaq b.all D h.cl k i).length=h.cl:=Qdc;have d:=Zq0 (L:=b.all) (F:=D) (n:=h.cl) (k:=k) (i:=i) hlt;have Z:U6.sees ((Addr.mk m 0 none).add (i*1)) (.int .i64 ((Qaq b.all D h.cl k i).getD i 0:Nat)):=by rw[Nat.mul_one];exact Za [] t _ _ (Zl2 (by rw[T];exact hlt))
     refine⟨_,i,⟨rfl,rfl,hlt⟩,_,Z,I1,?_⟩;rw[show(((Qaq b.all D h.cl k i).getD i 0:Nat):Int)+1=(((Qaq b.all D h.cl k i).getD i 0+1:Nat):Int) by omega];refine⟨_,i,⟨rfl,rfl,hlt⟩,rfl,?_⟩;rw[Nat.mul_one];refine WS (i:=i) (b:=m) (v:=.int .i64 (((Qaq b.all D h.cl k i).getD i 0+1:Nat):Int)) (c:=(Qga (Qaq b.all D h.cl k i)).toArray) [] t (by rw[size_toArray,Zqp,T];exact hlt) rfl λ x1 k1 k2 k3=>?_;rw[Zqq,hk]at k3;refine⟨V,?_⟩
     conv=>whnf
     exact⟨rfl,i+1,T1,⟨⟨λ x o g=>by rw[k1];exact H.imm x o g,⟨_,(append_nil _).symm⟩,k2.trans H.tok⟩,O1,k3,⟨λ x o g=>by rw[k1];exact C.imm x o g,⟨_,(append_nil _).symm⟩,k2.trans C.tok⟩⟩,L1⟩
   have E:i=h.cl:=by simp at hc;omega
   subst E;rw[Zpk]at t;refine⟨bg,?_⟩
   conv=>whnf
   exact⟨rfl,k+1,T1,⟨H,O1,t⟩,L1⟩
  have E:k=n:=by simp at hc;omega
  rw[E,hn]at Q
  let MB:List Qx:=MM xb m (Qaq b.all K h.rl b.all.length 0) (Qaq b.all D h.cl b.all.length 0)
  refine⟨Nat×Value,λ y=>[(4,.slice la n lc),(5,.slice (some ⟨xb,0,none⟩) h.rl h.rl),(6,.slice (some ⟨m,0,none⟩) h.cl h.cl),(13,.slice none 0 0),(12,y.2),(14,.int .i64 y.1)],λ y U'=>J.frz.lg U'/\y.1<=h.rl/\∃A,U'.M=A++MB/\Jw 51 1 y.2 (((range y.1).map b.fatR).map λ n=>.int .i64 n) A,λ y=>h.rl-y.1,(0,.slice none 0 0),T1,⟨ab,O1,[],Q,.nil⟩,?_⟩;rintro⟨r,v⟩f U5⟨aa,hr,A,P,j⟩;simp only at hr j;obtain⟨ra,rn,rc,rfl,bz⟩:=j.src;have ak:Zu ((r:Int)+1):=I1
  repeat refine⟨rfl,?_⟩
  conv=>whnf
  apply Qe<;>intro hc
  .have hlt:r<h.rl:=by simpa using hc
   have Z:U5.sees ((Addr.mk xb 0 none).add (r*1)) (.int .i64 ((Qaq b.all K h.rl b.all.length 0).getD r 0:Nat)):=by
    rw[Nat.mul_one];exact Za (A++[.obj m (.cells (Qga (Qaq b.all D h.cl b.all.length 0)).toArray 3 (0,0))]) (e:=3) (vs:=Qga (Qaq b.all K h.rl b.all.length 0)) (M₀:=J.M) (by rw[P];simp[MB,MM]) _ _ (Zl2 (by rw[Qdc];exact hlt))
   have am:H9 ((Qaq b.all K h.rl b.all.length 0).getD r 0) n=b.fatR r:=by
    rw[Zqr,getD_eq_getElem?_getD,getElem?_map,getElem?_range hlt,hn];rfl
   refine⟨_,r,⟨rfl,rfl,hlt⟩,_,Z,Q41.any,(Q4u _ _).go λ _=>?_⟩;rw[am]
   conv=>whnf
   intro bn z;refine Zk z λ x1 k1 z=>?_;have z:Zi x1 bn #[.int .i64 (b.fatR r)]:=z;have al:=aa.trans k1.lg
   conv=>whnf
   refine Ws (v:=.slice ra rn rc) (cs:=((range r).map b.fatR).map λ n=>.int .i64 n) (new:=[.int .i64 (b.fatR r)]) (M₀:=MB) DB rfl rfl (by rw[k1.own,P];exact j _) (.inr ⟨_,rfl,z.rd⟩) rfl (by simp[Value.single]) S3 λ v' M' X _=>?_;have X:Acc 51 1 v' (((range (r+1)).map b.fatR).map λ n=>.int .i64 n) M' (MB):=by rw[range_succ];simpa using X
   obtain⟨az,q,R⟩:=X.split;obtain⟨ta,tl,tc,rfl,-⟩:=R.src;refine⟨ak,?_⟩
   conv=>whnf
   exact⟨rfl,(r+1,.slice ta tl tc),T1,⟨⟨al.imm,⟨_,(append_nil _).symm⟩,al.tok⟩,by show r+1<=h.rl;omega,az,q,R⟩,L1⟩
  have E:r=h.rl:=by simp at hc;omega
  subst E;have ag:Jw 51 1 (.slice ra rn rc) (b.fatesR.map λ n=>.int .i64 n) A:=by unfold Bk.fatesR;rw[bk];exact j
  have ay:=P;have bh:=aa;obtain⟨O,ba⟩:∃O,O=A:=⟨_,rfl⟩;rw[<- ba]at ag ay;clear P j aa ba;refine⟨Nat×Value,λ y=>[(4,.slice la n lc),(6,.slice (some ⟨m,0,none⟩) h.cl h.cl),(12,.slice ra rn rc),(13,y.2),(15,.int .i64 y.1)],λ y U'=>J.frz.lg U'/\y.1<=h.cl/\∃A,U'.M=A++(O++MB)/\Jw 51 1 y.2 (((range y.1).map b.fatC).map λ n=>.int .i64 n) A,λ y=>h.cl-y.1,(0,.slice none 0 0),T1,⟨bh,O1,[],ay,.nil⟩,?_⟩;rintro⟨r,v⟩f U6⟨aa,hr,A,P,j⟩;simp only at hr j;obtain⟨ua,ul,uc,rfl,bz⟩:=j.src;have ak:Zu ((r:Int)+1):=I1
  repeat refine⟨rfl,?_⟩
  conv=>whnf
  apply Qe<;>intro hc
  .have hlt:r<h.cl:=by simpa using hc
   have Z:U6.sees ((Addr.mk m 0 none).add (r*1)) (.int .i64 ((Qaq b.all D h.cl b.all.length 0).getD r 0:Nat)):=by
    rw[Nat.mul_one];exact Za (A++O) (e:=3) (vs:=Qga (Qaq b.all D h.cl b.all.length 0)) (M₀:=.obj xb (.cells (Qga (Qaq b.all K h.rl b.all.length 0)).toArray 3 (0,0))::J.M) (by rw[P];simp[MB,MM]) _ _ (Zl2 (by rw[Qdc];exact hlt))
   have am:H9 ((Qaq b.all D h.cl b.all.length 0).getD r 0) n=b.fatC r:=by
    rw[Zqr,getD_eq_getElem?_getD,getElem?_map,getElem?_range hlt,hn];rfl
   refine⟨_,r,⟨rfl,rfl,hlt⟩,_,Z,Q41.any,(Q4u _ _).go λ _=>?_⟩;rw[am]
   conv=>whnf
   intro bn z;refine Zk z λ x1 k1 z=>?_;have z:Zi x1 bn #[.int .i64 (b.fatC r)]:=z;have al:=aa.trans k1.lg
   conv=>whnf
   refine Ws (v:=.slice ua ul uc) (cs:=((range r).map b.fatC).map λ n=>.int .i64 n) (new:=[.int .i64 (b.fatC r)]) (M₀:=(O++MB)) DB rfl rfl (by rw[k1.own,P];exact j _) (.inr ⟨_,rfl,z.rd⟩) rfl (by simp[Value.single]) S3 λ v' M' X _=>?_;have X:Acc 51 1 v' (((range (r+1)).map b.fatC).map λ n=>.int .i64 n) M' ((O++MB)):=by rw[range_succ];simpa using X
   obtain⟨az,q,R⟩:=X.split;obtain⟨ta,tl,tc,rfl,-⟩:=R.src;refine⟨ak,?_⟩
   conv=>whnf
   exact⟨rfl,(r+1,.slice ta tl tc),T1,⟨⟨al.imm,⟨_,(append_nil _).symm⟩,al.tok⟩,by show r+1<=h.cl;omega,az,q,R⟩,L1⟩
  have E:r=h.cl:=by simp at hc;omega
  subst E;have a5:Jw 51 1 (.slice ua ul uc) (b.fatesC.map λ n=>.int .i64 n) A:=by unfold Bk.fatesC;rw[ao];exact j
  repeat refine⟨rfl,?_⟩
  conv=>whnf
  exact⟨_,_,O,A,[.obj m (.cells (Qga (Qaq b.all D h.cl b.all.length 0)).toArray 3 (0,0)),.obj xb (.cells (Qga (Qaq b.all K h.rl b.all.length 0)).toArray 3 (0,0))],rfl,ag,a5,by rw[P];simp only[MB,MM];rw[af.own,an.own];rfl,λ x u g=>aa.imm x u (af.imm x u (an.imm x u g)),aa.tok.trans (af.tok.trans an.tok)⟩
 have b4:=bp.sep (R':=λ v U'=>∃v1 v2 O Y,v=.tuple #[v1,v2]/\Jw 51 1 v1 (b.fatesR.map λ n=>.int .i64 n) O/\Jd U'.frz v2 b.fatesC/\U'.M=O++(Y++U.M)/\(∀x o,U.I x=some o->U'.I x=some o)/\U'.tok=U.tok) λ v U' hs⟨v1,v2,O,A2,Y,e,a1,a2,W,hI,ht⟩=>by
  obtain⟨x1,k1,k2,a,len,cap,rfl,e2,e3,e4,-⟩:=Acc.freeze (U:={ U' with M:=O++(Y++U.M) }) hs (by rw[W];exact a2 _) (λ _ _ h=>h) rfl;simp at e2;exact⟨x1,k1,v1,_,O,Y,e,a1,⟨a,cap,by rw[e2],Vf e3 e4⟩,k2.own,λ x u g=>k2.imm x u (hI x u g),k2.tok.trans ht⟩
 refine b4.sep λ v U' hs⟨v1,v2,O,Y,e,a1,b0,W,hI,ht⟩=>?_;obtain⟨x1,k1,k2,a,len,cap,rfl,e2,e3,e4,-⟩:=Acc.freeze (U:={ U' with M:=Y++U.M }) hs (by rw[W];exact a1 _) (λ _ _ h=>h) rfl;simp at e2;have hz:U'.frz.lg x1.frz:=⟨k2.imm,⟨[],rfl⟩,k2.tok⟩;exact⟨{ x1 with M:=U.M },k1.trans (Z1 (by rw[k2.own];exact sublist_append_right ..)),⟨_,_,e,⟨a,cap,by rw[e2],Vf e3 e4⟩,b0.lg hz⟩,⟨λ x u g=>k2.imm x u (hI x u g),rfl,k2.tok.trans ht⟩⟩
end Go.Proofs

