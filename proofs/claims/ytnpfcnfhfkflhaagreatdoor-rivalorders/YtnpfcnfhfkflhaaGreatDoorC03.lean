/- Lemmas. No conditions. -/
import Derived.Test.YtnpfcnfhfkflhaaGreatDoorB42
import Derived.Test.YtnpfcnfhfkflhaaGreatDoorB43
import Derived.Test.YtnpfcnfhfkflhaaGreatDoorC00
set_option linter.all false
open List
open Go.Proofs.Tryz (prog)
set_option maxRecDepth 100000
namespace Go.TM
variable{T:Type}{P:Program}{S:Sys P T}
structure Hlr(U:Qa T)(b:Nat)(e:TypeId)(c:Array Value)(U':Qa T):Prop where
 imm:∀x o,U.I x=some o->U'.I x=some o
 own:U'.M=.obj b (.cells c e (0,0))::U.M
 tok:U'.tok=U.tok
 new:U.I b=none
def Hlr.le{U U' a:Qa T}{b:Nat}{e:TypeId}{c:Array Value}(h:Hlr U b e c U')(k:U'.le a):Hlr U b e c a:=⟨λ x o i=>k.imm x o (h.imm x o i),k.own.trans h.own,k.tok.trans h.tok,h.new⟩
def Hlr.frz2{U U':Qa T}{b:Nat}{e:TypeId}{c:Array Value}(h:Hlr U b e c U'):U.frz.lg U'.frz:=⟨h.imm,⟨[],rfl⟩,h.tok⟩
def Hlr.frz1{U U':Qa T}{b:Nat}{e:TypeId}{c:Array Value}(h:Hlr U b e c U'):U.frz.lg U':=⟨h.imm,⟨_,(append_nil _).symm⟩,h.tok⟩
def Hlr.made{U U':Qa T}{b:Nat}{e:TypeId}{c:Array Value}(h:U.le U')(d:U'.free b):Hlr U b e c (U'.put b (.cells c e)):=by
 refine⟨h.imm,by show _::U'.M=_;rw[h.own],h.tok,?_⟩;cases a:U.I b with
 |none=>rfl
 |some o=>have:=h.imm b o a;rw[d.1]at this;cases this
def Hlr.write{U U':Qa T}{b:Nat}{e:TypeId}{c:Array Value}{vs:List Value}{Q:Qa T->Prop}(h:Hlr U b e c U')(d:c.size=vs.length)(g:∀v∈vs,v.single=true)(f:∀a,U.le a->Zi a b vs.toArray->Q a):ZA ⟨b,0,none⟩ vs 0 (λ U'=>∃a,Qw U' a/\Q a) U':=by
 refine VP [] vs 0 c U' h.own g O1 ?_;rw[Y7 d];refine⟨_,We (b:=b) (M':=U.M) (Perm.refl _),f _ ⟨λ x o i=>?_,rfl,h.tok⟩ Zi.new⟩;show JI U'.I b _ x=_;unfold JI;rw[if_neg]
 .exact h.imm x o i
 .rintro rfl;rw[h.new]at i;cases i
end Go.TM
namespace Go.Proofs
open Go.TM
def Q0m:C:=(.seq (.reg [.xb 4 false])
 (.seq (.seq (.reg [.xv 5 0])
 (.block 0 (.loop (.seq (.seq (.reg [.m 6 5,.m 7 0,.xn 8 7,.xc 9 .lss 6 8])
 (.ite (.t 9) .skip (.exit 0)))
 (.seq (.block 1 (.seq (.reg [.m 12 0,.m 13 5,.xi 14 1 12 13,.xl 15 14,.m 16 1,.xc 17 .eql 15 16])
 (.ite (.t 17) (.seq (.reg [.xb 4 true])
 .ret) .skip)))
 (.reg [.m 10 5,.xa 11 10,.m 5 11]))))))
 (.seq (.reg [.xb 4 false])
 .ret)))
def Qdh:Zf prog 38 18 Q0m [.t 4]:=.o [] [] Tryz.func38 K1
variable{T:Type}{S:TM.Sys prog T}{U:Qa T}
attribute [local irreducible] Qb Zl Wt
def Qae(a:Option Addr)(len cap:Nat)(l:List Int)(e:Z5 U a len l)(g:len<2^60)(n:Int) :
  Qb S 38 #[.slice a len cap,.int .i64 n] (λ v U'=>v=.bool (l.contains n)/\U'=U) U:=by
 refine Qb.of (args:=[_,_]) Qdh Qf S1 ?_
 repeat refine⟨rfl,?_⟩
 refine⟨Nat,λ i=>[(0,.slice a len cap),(1,.int .i64 n),(5,.int .i64 i)],λ i U'=>U'=U/\i<=len/\n∉l.take i,λ i=>len-i,0,T1,⟨rfl,O1,S1⟩,?_⟩;rintro i f _⟨rfl,o,b⟩
 repeat refine⟨rfl,?_⟩
 conv=>whnf
 apply Qe<;>intro d
 .have hlt:i<len:=by simpa using d
  obtain⟨j,x,h,rfl,m,k⟩:=e.at hlt;refine⟨j,i,⟨rfl,rfl,hlt⟩,_,k,?_⟩
  repeat refine⟨rfl,?_⟩
  conv=>whnf
  apply Qe<;>intro d
  .repeat refine⟨rfl,?_⟩
   conv=>whnf
   have c:x=n:=by simpa using d
   refine⟨?_,rfl⟩;have:n∈l:=c▸mem_of_getElem? h;simp[this]
  .have c:x≠n:=by simpa using d
   refine⟨I1,?_⟩;refine⟨rfl,i+1,T1,⟨rfl,O1,?_⟩,L1⟩;rw[Ji h];simp[b,Ne.symm c]
 .have hge:len<=i:=by simpa using d
  repeat refine⟨rfl,?_⟩
  refine⟨?_,rfl⟩;have:l.take i=l:=take_of_length_le (by rw[e.1];exact hge);rw[this]at b;simp[b]
end Go.Proofs
namespace Go.TM
variable{T:Type}{U:Qa T}
def boC(l:List Bool):List Value:=l.map .bool
def Qpf(l:List Bool)(i:Nat)(x:Bool):(boC l).toArray.setIfInBounds i (.bool x)=(boC (l.set i x)).toArray:=by
 simp[boC,map_set]
def WX.of{b:Nat}{l:List Bool}(h:Jn U ⟨b,0,none⟩ (boC l)):WX U (some ⟨b,0,none⟩) l.length l:=
 ⟨rfl,λ i x a=>⟨_,rfl,rfl,by rw[Nat.mul_one];exact h i _ (by simp[boC,a])⟩⟩
def Q4v{n i:Nat}(h:i<n):(replicate i true++replicate (n-i) false).set i true=replicate (i+1) true++replicate (n-(i+1)) false:=by
 obtain⟨m,e⟩:∃m,n-i=m+1:=⟨n-i-1,O1⟩;rw[set_append_right _ _ S1,e];simp only[length_replicate,Nat.sub_self,replicate_succ,set_cons_zero];rw[show n-(i+1)=m by omega,<- replicate_succ,replicate_succ',append_assoc];rfl
def Q4w{P:Program}{t:TypeId}(h:(match P.info? t with|some a=>a.zero.isSome&&(match a.zero with|some (.bool false)=>true|_=>false)&&a.size==1&&decide (a.bytes<=64)|none=>false)=true):∃a,P.info? t=some a/\a.zero=some (.bool false)/\a.size=1/\a.bytes<=64:=by
 split at h
 .rename_i a hi;simp only[Bool.and_eq_true,beq_iff_eq,decide_eq_true_eq]at h;obtain⟨⟨⟨e,b⟩,c⟩,d⟩:=h;refine⟨a,hi,?_,c,d⟩;split at b
  .assumption
  .cases b
 .cases h
def Zcx{P:Program}{S:Sys P T}{f:FuncId}{args:Array Value}{s w:List Bool}(h:Qb S f args (λ v U'=>∃g a,v=.tuple #[.slice (some ⟨g,0,none⟩) s.length s.length,.slice (some ⟨a,0,none⟩) w.length w.length]/\U'.M=.obj g (.cells (boC s).toArray 4 (0,0))::.obj a (.cells (boC w).toArray 4 (0,0))::U.M/\(∀x o,U.I x=some o->U'.I x=some o)/\U'.tok=U.tok) U) :
  Qb S f args (λ v U'=>(∃d u,v=.tuple #[d,u]/\WQ U'.frz d s/\WQ U'.frz u w)/\U.le U') U:=by
 have y:Qb S f args (λ v U'=>∃d a,v=.tuple #[d,.slice (some ⟨a,0,none⟩) w.length w.length]/\WQ U'.frz d s/\U'.M=.obj a (.cells (boC w).toArray 4 (0,0))::U.M/\(∀x o,U.I x=some o->U'.I x=some o)/\U'.tok=U.tok) U:=by
  refine h.sep λ v U' m⟨g,a,p,l,k,n⟩=>?_;obtain⟨e,r,b,t⟩:=EF (U:={ U' with M:=.obj a (.cells (boC w).toArray 4 (0,0))::U.M }) m l (λ _ _ h=>h) rfl rfl;have j:Zi e.frz g (boC s).toArray:=⟨4,(0,0),t⟩;exact⟨e,r,_,a,p,j.bools (λ i x c=>by simp[boC,c]),b.own,λ x o c=>b.imm x o (k x o c),b.tok.trans n⟩
 refine y.sep λ v U' m⟨d,a,p,q,l,k,n⟩=>?_;obtain⟨e,r,b,t⟩:=EF (U:={ U' with M:=U.M }) m l (λ _ _ h=>h) rfl rfl;have j:Zi e.frz a (boC w).toArray:=⟨4,(0,0),t⟩;have z:U'.frz.lg e.frz:=⟨b.imm,⟨[],rfl⟩,b.tok⟩;exact⟨e,r,⟨_,_,p,q.lg z,j.bools (λ i x c=>by simp[boC,c])⟩,⟨λ x o c=>b.imm x o (k x o c),b.own,b.tok.trans n⟩⟩
end Go.TM
namespace Go.Proofs
open Go.TM
variable{T:Type}{S:TM.Sys prog T}{U:Qa T}
attribute [local irreducible] Qb Zl Wt
def Qoa(a h:Option Addr)(len cap b c:Nat)(l g:List Int)(q:Z5 U a len l)(k:Z5 U h b g)(r:len<2^60)(e:b<2^60) :
  Qb S 127 #[.slice a len cap,.slice h b c] (λ v U'=>v=.bool (l.all λ n=>g.contains n)/\U'=U) U:=by
 refine Qb.of (args:=[_,_]) Qga Qf S1 ?_;have u:=q.1;refine⟨Nat,λ i=>[(0,.slice a len cap),(1,.slice h b c),(5,.int .i64 i)],λ i U'=>U'=U/\i<=len/\(l.take i).all (λ n=>g.contains n)=true,λ i=>len-i,0,T1,⟨rfl,O1,rfl⟩,?_⟩;rintro i f _⟨rfl,z,d⟩;have j:Zu ((i:Int)+1):=I1
 repeat refine⟨rfl,?_⟩
 conv=>whnf
 apply Qe<;>intro o
 .have hlt:i<len:=by simpa using o
  obtain⟨t,x,s,rfl,y,w⟩:=q.at hlt;refine⟨t,i,⟨rfl,rfl,hlt⟩,_,w,Qdh.any,(Qae h b c g k e x).go λ _=>?_⟩;cases p:g.contains x with
  |false=>
   have m:(l.all λ n=>g.contains n)=false:=by
    rw[all_eq_false];exact⟨x,mem_of_getElem? s,by rw[p];simp⟩
   rw[m]
   repeat refine⟨rfl,?_⟩
   conv=>whnf
  |true=>
   repeat refine⟨rfl,?_⟩
   refine⟨j,?_⟩
   conv=>whnf
   exact⟨rfl,i+1,T1,⟨rfl,O1,by rw[Ji s,all_append,d];simp only[all_cons,all_nil,p];rfl⟩,L1⟩
 .have hge:i=len:=by simp at o;omega
  rw[take_of_length_le O1]at d;rw[d]
  repeat refine⟨rfl,?_⟩
  conv=>whnf
def Qf7(c:Cs)(N aa:Option Addr)(h gc al ac:Nat)(J:J3 U N h c.gs)(am:h<2^60)(sa:Option Addr)(sl Z:Nat)(s:List Bool)(V:WX U sa sl s)(R:∀g∈c.gs,∀n∈g,0<=n/\n.toNat<sl) :
  Qb S 128 #[.agg #[.string c.nm,.int .i64 c.ag,.slice N h gc,.slice aa al ac],.slice sa sl Z] (λ v U'=>v=.bool (Iq c.gs s)/\U'=U) U:=by
 refine Qb.pure' (Qb.of (args:=[_,_]) Qjj Qf S1 ?_);have af:=J.1
 repeat refine⟨rfl,?_⟩
 conv=>whnf
 intro B K d m;have m:Zi K B #[.string c.nm,.int .i64 c.ag,.slice N h gc,.slice aa al ac]:=m;have J:=J.lg d.lg;have V:=V.lg d.lg;refine⟨Nat,λ i=>[(1,.slice sa sl Z),(2,.pointer (some ⟨B,0,none⟩)),(5,.int .i64 i)],λ i U'=>U'=K/\i<=h/\Iq (c.gs.take i) s=false,λ i=>h-i,0,T1,⟨rfl,O1,rfl⟩,?_⟩;rintro i f U2⟨O,hi,e⟩;obtain rfl:=O.symm;have D:Zu ((i:Int)+1):=I1
 refine⟨_,m.sees3 (o:=2) rfl,?_⟩
 repeat refine⟨rfl,?_⟩
 conv=>whnf
 apply Qe<;>intro p
 .have hlt:i<h:=by simpa using p
  obtain⟨ad,g,aj,b,ak,hx,q,an,F,C,ae,A⟩:=J.at hlt;have ab:=C.1;have z:=R g A
  have l:Iq (c.gs.take (i+1)) s=g.all λ r=>s.getD r.toNat false:=by
   unfold Iq at e ⊢;rw[Ji hx,any_append,e];simp
  refine⟨Nat×Bool,λ y=>[(1,.slice sa sl Z),(2,.pointer (some ⟨B,0,none⟩)),(5,.int .i64 i),(6,.bool y.2),(7,.int .i64 y.1)],λ y U'=>U'=K/\y.1<=b/\((g.take y.1).all λ r=>s.getD r.toNat false)=y.2,λ y=>b-y.1,(0,true),T1,⟨rfl,S1,rfl⟩,?_⟩;rintro⟨j,t⟩f U2⟨O,hj,G⟩;obtain rfl:=O.symm;simp only at hj G;have k:Zu ((j:Int)+1):=I1
  refine⟨_,m.sees3 (o:=2) rfl,ad,i,⟨q,rfl,hlt⟩,_,F,?_⟩
  repeat refine⟨rfl,?_⟩
  conv=>whnf
  apply Qe<;>intro p
  .have hltj:j<b:=by simpa using p
   obtain⟨L,n,H,u,ah,W⟩:=C.at hltj;obtain⟨T,E⟩:=z n (mem_of_getElem? H);have a:((g.take (j+1)).all λ r=>s.getD r.toNat false)=(t&&s.getD n.toNat false):=by rw[Ji H,all_append,G];simp
   cases t with
   |false=>
    refine⟨k,?_⟩
    conv=>whnf
    exact⟨rfl,(j+1,false),T1,⟨rfl,by show j+1<=b;omega,a⟩,L1⟩
   |true=>
    obtain⟨M,x,Y,w,ai,X⟩:=V.at E;have P:s.getD n.toNat false=x:=by simp[getD_eq_getElem?_getD,Y]
    refine⟨_,m.sees3 (o:=2) rfl,ad,i,⟨q,rfl,hlt⟩,_,F,L,j,⟨u,rfl,hltj⟩,_,W,M,n.toNat,⟨w,(Int.toNat_of_nonneg T).symm,E⟩,_,X,k,?_⟩
    conv=>whnf
    exact⟨rfl,(j+1,x),T1,⟨rfl,by show j+1<=b;omega,by rw[a,P];rfl⟩,L1⟩
  have Q:j=b:=by simp at p;omega
  rw[take_of_length_le O1]at G;cases t with
  |true=>
   have I:Iq c.gs s=true:=by
    unfold Iq;rw[any_eq_true];exact⟨g,A,G⟩
   rw[I]
   repeat refine⟨rfl,?_⟩
   conv=>whnf
   exact d.lg
  |false=>
   refine⟨D,?_⟩
   conv=>whnf
   exact⟨rfl,i+1,T1,⟨rfl,O1,by rw[l,G]⟩,L1⟩
 .have Q:i=h:=by simp at p;omega
  rw[take_of_length_le O1]at e;rw[e]
  repeat refine⟨rfl,?_⟩
  conv=>whnf
  exact d.lg
def Q4z:∃a,prog.info? 4=some a/\a.zero=some (.bool false)/\a.size=1/\a.bytes<=64:=Q4w K1
def Qaq:prog.underlying 29=some (.slice 4):=K1
set_option maxHeartbeats 2000000 in
def Qlg(h:BH)(b:Bk)(hb:Zq U.frz h b)(V:b.Ok)(a:Option Addr)(cap:Nat)(o:List Nat)(ho:Z5 U.frz a o.length (o.map λ(k:Nat)=>(k:Int)))(a5:∀i∈o,i<b.cs.length)(bt:o.length<2^60) :
  Qb S 72 #[h.v,.slice a o.length cap] (λ v U'=>(∃v1 v2,v=.tuple #[v1,v2]/\WQ U'.frz v1 (b.ends o).1/\WQ U'.frz v2 (b.ends o).2)/\U.le U') U:=by
 refine Zcx (Qb.of (args:=[_,_]) Qvo Qf S1 ?_);have an:=hb.cs.1;have ao:=hb.rs.1;have b0:=V.nr;have bz:=V.nc;obtain⟨i4,X,Y,Z,ab⟩:=Q4z
 repeat refine⟨rfl,?_⟩
 conv=>whnf
 intro B E G hB;have hB:Zi E B #[.slice h.ra h.rl h.rc,.slice h.ca h.cl h.cc]:=hB;have R:Zi E.frz B #[.slice h.ra h.rl h.rc,.slice h.ca h.cl h.cc]:=hB;have bh:=hb.lg G.lg.frz2
 let ZR:List Bool:=replicate h.rl false
 let I:List Bool:=replicate h.cl false
 have ax:(replicate h.rl (Value.bool false)).toArray=(boC ZR).toArray:=by simp[boC,ZR]
 have aw:(replicate h.cl (Value.bool false)).toArray=(boC I).toArray:=by simp[boC,I]
 let H:Nat->Nat->List Bool->List Bool->List Qx:=λ d m s w=>.obj d (.cells (boC s).toArray 4 (0,0))::.obj m (.cells (boC w).toArray 4 (0,0))::U.M
 conv=>whnf
 intro ac L
 refine SQ (mu:=[1009]) (ops:=Pl Tryz.f72 1) (id:=1) L [3,7] [[0,1,2,4,5,6,3,8,7],[0,1,2,4,5,6,7,3,8]] [9] Qdc Qpj Qf K1 K1 K1 K1 K1
  (λ f' J U'=>J=[]/\∃d m,XF f' [(1,.slice a o.length cap),(2,.pointer (some ⟨B,0,none⟩)),(6,.slice (some ⟨d,0,none⟩) h.rl h.rl),(18,.slice (some ⟨m,0,none⟩) h.cl h.cl)]/\E.frz.lg U'/\U'.M=H d m ZR I) ?_ ?_
 .intro l t;simp only[Qdc,mem_cons,not_mem_nil,or_false]at t;rcases t with rfl|rfl
  .refine⟨_,R.sees3 (o:=0) rfl,_,R.sees3 (o:=1) rfl,λ v U'=>∃d,v=.slice (some ⟨d,0,none⟩) h.rl h.rl/\E.frz.lg U'/\U'.M=.obj d (.cells (boC ZR).toArray 4 (0,0))::U.M,λ v Q x2⟨d,e,t,C⟩p=>⟨d,e,t.trans p.lg,p.own.trans C⟩,λ v U'⟨d,e,t,C⟩=>t,λ U' F=>?_,λ v W=>?_⟩
   .conv=>whnf
    refine EK (n:=h.rl) Qaq X Y rfl Z ab rfl rfl O1 λ d bp=>?_;refine⟨_,.refl _,d,rfl,⟨λ x o A=>F.imm x o A,⟨_,(append_nil _).symm⟩,F.tok⟩,?_⟩;show _::U'.M=_;rw[F.own,G.own,ax]
   obtain⟨_,d,rfl,-⟩:=W;refine⟨λ v U'=>∃m,v=.slice (some ⟨m,0,none⟩) h.cl h.cl/\E.frz.lg U'/\U'.M=H d m ZR I,λ v Q x2⟨d,e,t,C⟩p=>⟨d,e,t.trans p.lg,p.own.trans C⟩,λ v U'⟨d,e,t,C⟩=>t,λ U' F=>?_,λ v W=>?_⟩
   .obtain⟨aq,e,z,y⟩:=F;obtain rfl:d=aq:=by simpa using e
    conv=>whnf
    refine EK (n:=h.cl) Qaq X Y rfl Z ab rfl rfl O1 λ m br=>?_;refine⟨_,W7 (M':=H d m ZR I) ?_,m,rfl,⟨λ x o A=>z.imm x o A,⟨_,(append_nil _).symm⟩,z.tok⟩,rfl⟩;show(_::U'.M).Perm _;rw[y,aw];exact Perm.swap _ _ _
   obtain⟨_,m,rfl,-⟩:=W
   conv=>whnf
   rintro U'⟨ar,e,z,y⟩;obtain rfl:m=ar:=by simpa using e
   exact⟨rfl,d,m,T1,z,y⟩
  .refine⟨_,R.sees3 (o:=0) rfl,_,R.sees3 (o:=1) rfl,λ v U'=>∃m,v=.slice (some ⟨m,0,none⟩) h.cl h.cl/\E.frz.lg U'/\U'.M=.obj m (.cells (boC I).toArray 4 (0,0))::U.M,λ v Q x2⟨d,e,t,C⟩p=>⟨d,e,t.trans p.lg,p.own.trans C⟩,λ v U'⟨d,e,t,C⟩=>t,λ U' F=>?_,λ v W=>?_⟩
   .conv=>whnf
    refine EK (n:=h.cl) Qaq X Y rfl Z ab rfl rfl O1 λ m br=>?_;refine⟨_,.refl _,m,rfl,⟨λ x o A=>F.imm x o A,⟨_,(append_nil _).symm⟩,F.tok⟩,?_⟩;show _::U'.M=_;rw[F.own,G.own,aw]
   obtain⟨_,m,rfl,-⟩:=W;refine⟨λ v U'=>∃d,v=.slice (some ⟨d,0,none⟩) h.rl h.rl/\E.frz.lg U'/\U'.M=H d m ZR I,λ v Q x2⟨d,e,t,C⟩p=>⟨d,e,t.trans p.lg,p.own.trans C⟩,λ v U'⟨d,e,t,C⟩=>t,λ U' F=>?_,λ v W=>?_⟩
   .obtain⟨ar,e,z,y⟩:=F;obtain rfl:m=ar:=by simpa using e
    conv=>whnf
    refine EK (n:=h.rl) Qaq X Y rfl Z ab rfl rfl O1 λ d bp=>?_;refine⟨_,.refl _,d,rfl,⟨λ x o A=>z.imm x o A,⟨_,(append_nil _).symm⟩,z.tok⟩,?_⟩;show _::U'.M=_;rw[y,ax]
   obtain⟨_,d,rfl,-⟩:=W
   conv=>whnf
   rintro U'⟨aq,e,z,y⟩;obtain rfl:d=aq:=by simpa using e
   exact⟨rfl,d,m,T1,z,y⟩
 rintro f' J U3⟨rfl,d,m,K,a4,bb⟩;rw[<- K.ovr];clear K
 conv=>whnf
 intro a' T;refine⟨by rw[T.size,L.size],_,T.get,?_⟩;rw[T.ds];clear T L
 refine⟨Nat,λ i=>[(1,.slice a o.length cap),(2,.pointer (some ⟨B,0,none⟩)),(6,.slice (some ⟨d,0,none⟩) h.rl h.rl),(7,.slice (some ⟨m,0,none⟩) h.cl h.cl),(8,.int .i64 i)],
  λ i U'=>E.frz.lg U'/\i<=h.rl/\U'.M=H d m (replicate i true++replicate (h.rl-i) false) I,λ i=>h.rl-i,0,T1,⟨a4,O1,by rw[bb];simp[ZR]⟩,?_⟩
 rintro i f U4⟨t,hi,C⟩;have bo:Zu ((i:Int)+1):=I1
 repeat refine⟨rfl,?_⟩
 conv=>whnf
 apply Qe<;>intro hc
 .have hlt:i<h.rl:=by simpa using hc
  refine⟨_,i,⟨rfl,rfl,hlt⟩,rfl,gb (L₁:=[]) (by rw[C];exact Perm.refl _) (by simp[boC];omega) rfl λ Q k1 k2 k3=>?_⟩
  have y:Q.M=H d m (replicate (i+1) true++replicate (h.rl-(i+1)) false) I:=by
   rw[k3,Nat.mul_one];show([]:List Qx)++.obj d (.cells ((boC _).toArray.setIfInBounds i (.bool true)) 4 (0,0))::_=_;rw[Qpf,Q4v hlt];rfl
  refine⟨bo,?_⟩
  conv=>whnf
  exact⟨rfl,i+1,T1,⟨⟨λ x o A=>by rw[k1];exact t.imm x o A,⟨_,(append_nil _).symm⟩,by rw[k2];exact t.tok⟩,O1,y⟩,L1⟩
 have a0:i=h.rl:=by simp at hc;omega
 subst a0;have a2:b.ini=(replicate h.rl true++replicate (h.rl-h.rl) false,I):=by simp[Bk.ini,I,ao,an]
 refine⟨Nat,λ j=>[(1,.slice a o.length cap),(2,.pointer (some ⟨B,0,none⟩)),(6,.slice (some ⟨d,0,none⟩) h.rl h.rl),(7,.slice (some ⟨m,0,none⟩) h.cl h.cl),(9,.int .i64 j)],
  λ j U'=>E.frz.lg U'/\j<=o.length/\U'.M=H d m (b.ends (o.take j)).1 (b.ends (o.take j)).2,λ j=>o.length-j,0,T1,⟨t,O1,by rw[C];show _=H d m b.ini.1 b.ini.2;rw[a2]⟩,?_⟩
 rintro j f U5⟨O,hj,ak⟩;have ai:Zu ((j:Int)+1):=I1
 repeat refine⟨rfl,?_⟩
 conv=>whnf
 apply Qe<;>intro hc
 .have hlt:j<o.length:=by simpa using hc
  obtain⟨n,ap⟩:∃n,o[j]?=some n:=⟨_,getElem?_eq_getElem hlt⟩;have hn:=a5 n (mem_of_getElem? ap);obtain⟨au,x2,a9,ah,bu,a7⟩:=(ho.lg G.lg.frz2).at hlt;obtain rfl:(n:Int)=x2:=by rw[getElem?_map,ap]at a9;exact Option.some.inj a9
  obtain⟨ad,c,ga,gl,gc,aa,al,ac,A,bk,b1,bq,hg,bl,ha,bx,aj⟩:=bh.case (show n<h.cl by omega);have ay:b.cas n=c:=by simp[Bk.cas,getD_eq_getElem?_getD,A]
  have bg:=V.ag c aj;have bn:=V.gs c aj;have f5:E.frz.lg U5.frz:=O.frz2;have ba:Zi U5.frz B #[.slice h.ra h.rl h.rc,.slice h.ca h.cl h.cc]:=hB.imI O.imm
  conv=>whnf
  intro bw N
  refine SQ (mu:=[1009]) (ops:=Pl Tryz.f72 9) (id:=9) N [8] [[0,1,2,3,4,5,6,7,8]] [9] Qdg Qp3 Qf K1 K1 K1 K1 K1
   (λ f' J U'=>J=[]/\∃u,XF f' [(1,.slice a o.length cap),(2,.pointer (some ⟨B,0,none⟩)),(6,.slice (some ⟨d,0,none⟩) h.rl h.rl),(7,.slice (some ⟨m,0,none⟩) h.cl h.cl),(9,.int .i64 j),(10,.pointer (some ⟨u,0,none⟩)),(41,.agg #[.string c.nm,.int .i64 c.ag,.slice ga gl gc,.slice aa al ac])]/\Hlr U5 u 49 #[.string ⟨#[]⟩,.int .i64 0,.slice none 0 0,.slice none 0 0] U') ?_ ?_
  .intro l t;simp only[Qdg,mem_cons,not_mem_nil,or_false]at t;subst t;refine⟨_,ba.sees3 (o:=1) rfl,au,j,⟨ah,rfl,hlt⟩,_,a7.lg f5,ad,n,⟨bk,rfl,O1⟩,_,⟨rfl,bq.lg f5⟩,λ v U'=>∃u,v=.pointer (some ⟨u,0,none⟩)/\Hlr U5 u 49 #[.string ⟨#[]⟩,.int .i64 0,.slice none 0 0,.slice none 0 0] U',λ v Q x2⟨q,e,hh⟩p=>⟨q,e,hh.le p⟩,λ v U'⟨q,e,hh⟩=>hh.frz1,λ U' F=>?_,λ v W=>?_⟩
   .conv=>whnf
    intro u az;exact⟨_,.refl _,_,.refl _,u,rfl,Hlr.made F az⟩
   obtain⟨_,u,rfl,-⟩:=W
   conv=>whnf
   rintro U'⟨av,e,hh⟩;obtain rfl:u=av:=by simpa using e
   exact⟨rfl,u,T1,hh⟩
  rintro f' J U6⟨rfl,u,K,a1⟩;rw[<- K.ovr];clear K;refine⟨rfl,a1.write (vs:=[.string c.nm,.int .i64 c.ag,.slice ga gl gc,.slice aa al ac]) rfl (by simp[Value.single]) λ U7 h7 af=>?_⟩
  conv=>whnf
  intro bv D;refine⟨by rw[D.size,N.size],_,D.get,?_⟩;rw[D.ds];clear D N;have P:E.frz.lg U7:=O.trans h7.lg;have am:U7.M=H d m (b.ends (o.take j)).1 (b.ends (o.take j)).2:=h7.own.trans ak;have a8:=(b.end_len (o.take j));have a6:(b.ends (o.take j)).1.length=h.rl:=by rw[a8.1,ao]
  have bs:(b.ends (o.take j)).2.length=h.cl:=by rw[a8.2,an]
  have bj:WX U7 (some ⟨d,0,none⟩) h.rl (b.ends (o.take j)).1:=a6▸WX.of (Za [] am);have r:b.ends (o.take (j+1))=b.stp (b.ends (o.take j)) n:=by rw[Ji ap,b.ends_snoc]
  unfold Bk.stp at r;rw[ay]at r;refine⟨_,⟨rfl,af.rd⟩,?_⟩;refine⟨Qjj.any,(Qf7 c ga aa gl gc al ac ((hg.lg P.frz2).lg Qp) bl (some ⟨d,0,none⟩) h.rl h.rl (b.ends (o.take j)).1 bj (λ g bm n hn=>?_)).mono ?_⟩
  .have:=(bn g bm).2 n hn;unfold Bk.nr at this;omega
  rintro _ U'⟨rfl,bf⟩-;obtain rfl:=bf.symm;have ae:c.ag=(c.ag.toNat:Int)/\c.ag.toNat<h.rl:=by unfold Bk.nr at bg;omega
  cases hw:Iq c.gs (b.ends (o.take j)).1 with
  |true=>
   rw[if_pos hw]at r;refine⟨au,j,⟨ah,rfl,hlt⟩,_,a7.lg (Qp.trans P:E.frz.frz.lg U7),_,n,⟨rfl,rfl,O1⟩,rfl,gb (L₁:=[_]) (by rw[am];first|done|exact Perm.refl _) (by simp[boC];omega) rfl λ Q k1 k2 k3=>?_⟩
   have bd:Q.M=H d m (b.ends (o.take j)).1 ((b.ends (o.take j)).2.set n true):=by
    rw[k3,Nat.mul_one];show([Qx.obj d _]:List Qx)++Qx.obj m (.cells ((boC _).toArray.setIfInBounds n (.bool true)) 4 (0,0))::_=_;rw[Qpf];rfl
   have a3:E.frz.lg Q:=⟨λ x o A=>by rw[k1];exact P.imm x o A,⟨_,(append_nil _).symm⟩,by rw[k2];exact P.tok⟩;have bi:=af.imI (U':=Q) λ x o A=>by rw[k1];exact A
   refine⟨_,bi.sees3 (o:=1) rfl,_,c.ag.toNat,⟨rfl,ae.1,ae.2⟩,rfl,gb (L₁:=[]) (by rw[bd];first|done|exact Perm.refl _) (by simp[boC];omega) rfl λ x2 k4 k5 k6=>?_⟩
   have be:x2.M=H d m (b.ends (o.take (j+1))).1 (b.ends (o.take (j+1))).2:=by
    rw[k6,Nat.mul_one,r];show([]:List Qx)++.obj d (.cells ((boC _).toArray.setIfInBounds c.ag.toNat (.bool false)) 4 (0,0))::_=_;rw[Qpf];rfl
   refine⟨ai,?_⟩
   conv=>whnf
   exact⟨rfl,j+1,T1,⟨⟨λ x o A=>by rw[k4];exact a3.imm x o A,⟨_,(append_nil _).symm⟩,by rw[k5];exact a3.tok⟩,O1,be⟩,L1⟩
  |false=>
   rw[if_neg (by simp[hw])]at r;refine⟨ai,?_⟩
   conv=>whnf
   exact⟨rfl,j+1,T1,⟨P,O1,by rw[am,r]⟩,L1⟩
 have a0:j=o.length:=by simp at hc;omega
 rw[take_of_length_le O1]at ak;have he:=b.end_len o
 repeat refine⟨rfl,?_⟩
 conv=>whnf
 exact⟨d,m,by rw[he.1,he.2,ao,an];rfl,ak,λ x o A=>O.imm x o (G.imm x o A),O.tok.trans G.tok⟩
end Go.Proofs
namespace Go.TM
def Qvz{l:List Int}(h:∀n∈l,0<=n){x:Int}(a:0<=x):l.contains x=decide (x.toNat∈l.map Int.toNat):=by
 rw[Bool.eq_iff_iff,decide_eq_true_iff,contains_iff_mem,mem_map];constructor
 .intro hm;exact⟨x,hm,rfl⟩
 .rintro⟨y,hy,e⟩;have:=h y hy;have:y=x:=O1
  exact this▸hy
def Zbz{l af:List Int}(h:∀n∈l,0<=n)(c:∀n∈af,0<=n):(af.all λ n=>l.contains n)=(af.map Int.toNat).all λ k=>(l.map Int.toNat).contains k:=by
 rw[all_map];rw[Bool.eq_iff_iff,all_eq_true,all_eq_true]
 have b:∀n∈af,l.contains n=((l.map Int.toNat).contains n.toNat):=λ n a=>by
  rw[Qvz h (c n a),Bool.eq_iff_iff,decide_eq_true_iff,contains_iff_mem]
 constructor
 .intro g n a;show(l.map Int.toNat).contains n.toNat=true;rw[<- b n a];exact g n a
 .intro g n a;rw[b n a];exact g n a
end Go.TM
namespace Go.Proofs
open Go.TM
variable{T:Type}{S:TM.Sys prog T}{U:Qa T}
attribute [local irreducible] Qb Zl Wt
def Qek(h:BH)(b:Bk)(Y:Zq U.frz h b)(ak:b.Ok)(a:Option Addr)(len cap:Nat)(l:List Int)(hl:Z5 U.frz a len l)(aq:len<2^60)(ao:len<=cap) :
  Qb S 71 #[h.v,.slice a len cap] (λ v U'=>v=.int .i64 (b.ordF l)/\U'=U) U:=by
 refine Qb.pure' (Qb.of (args:=[_,_]) Qqa Qf S1 ?_);have ae:=Y.cs.1;have ap:=Y.cl;have ax:=hl.1;have aj:b.nc=(h.cl:Int):=by unfold Bk.nc;rw[ae]
 have G:Zu ((h.cl:Int)-1):=I1
 repeat refine⟨rfl,?_⟩
 conv=>whnf
 intro B U1 p M;have M:Zi U1 B #[.slice h.ra h.rl h.rc,.slice h.ca h.cl h.cc]:=M;have Z:=Y.lg p.lg.frz2;have ai:=hl.lg p.lg.frz2;refine⟨_,M.sees3 (o:=1) rfl,?_⟩
 repeat refine⟨rfl,?_⟩
 conv=>whnf
 apply Qe<;>intro F
 .have hne:l.length≠b.cs.length:=by simp at F;omega
  have Q:b.ordF l=2:=by unfold Bk.ordF;rw[if_pos hne]
  rw[Q]
  repeat refine⟨rfl,?_⟩
  conv=>whnf
  exact p.lg
 have au:l.length=b.cs.length:=by simp at F;omega
 have Q:b.ordF l=b.ordL [] l:=by unfold Bk.ordF;rw[if_neg O1]
 rw[Q];refine⟨Nat,λ i=>[(1,.slice a len cap),(2,.pointer (some ⟨B,0,none⟩)),(5,.int .i64 i)],λ i U'=>U1.le U'/\i<=len/\(∀n∈l.take i,0<=n)/\b.ordL [] l=b.ordL ((l.take i).map Int.toNat) (l.drop i),λ i=>len-i,0,T1,⟨.refl _,O1,S1,rfl⟩,?_⟩;rintro i f U2⟨g,hi,j,d⟩;have E:=M.lg g.lg;have ab:=Z.lg g.lg.frz2;have H:=ai.lg g.lg.frz2;have e:=p.lg.trans g.lg;have ah:Zu ((i:Int)+1):=I1
 repeat refine⟨rfl,?_⟩
 conv=>whnf
 apply Qe<;>intro F
 .have hlt:i<len:=by simpa using F
  obtain⟨O,x,hx,r,ay,hs⟩:=(H.lg Qp).at hlt;rw[WT hx,b.ordL_cons,aj]at d
  have t:(if cap=0 then a else a.map (·.add (0*1)))=a:=by
   rw[r];split
   .rfl
   .rfl
  have K:∀w:Qa T,U2.le w->Z5 w a (i-0) (l.take i):=λ w hw=>by
   refine⟨by rw[length_take];omega,λ k y hy=>?_⟩;have hk:=(List.getElem?_eq_some_iff.1 hy).1;rw[length_take]at hk;rw[getElem?_take_of_lt O1]at hy;exact((H.lg Qp).lg hw.lg).2 k y hy
  refine⟨O,i,⟨r,rfl,hlt⟩,_,hs,_,E.sees3 (o:=1) rfl,G,?_⟩
  conv=>whnf
  intro U3 u _;refine⟨PM.any,(Ky U3 x 0 ((h.cl:Int)-1)).go λ _=>?_⟩;cases z:btw x 0 ((h.cl:Int)-1)with
  |false=>
   rw[z]at d;rw[d]
   repeat refine⟨rfl,?_⟩
   conv=>whnf
   exact e.trans u.lg
  |true=>
  rw[if_pos z]at d
  have m:0<=x/\x<h.cl:=by
   simp only[btw,Bool.and_eq_true,decide_eq_true_eq]at z;omega
  refine⟨0,i,⟨rfl,rfl,O1,O1⟩,?_⟩;rw[t];refine⟨O,i,⟨r,rfl,hlt⟩,_,hs.lg u.lg,?_⟩
  conv=>whnf
  intro U4 R _;have C:=u.trans R;refine⟨Qdh.any,(Qae a (i-0) (cap-0) (l.take i) (K U4 C) O1 x).go λ _=>?_⟩;rw[Qvz j m.1];by_cases N:x.toNat∈(l.take i).map Int.toNat
  .rw[if_pos N]at d;rw[d,decide_eq_true N]
   repeat refine⟨rfl,?_⟩
   conv=>whnf
   exact e.trans C.lg
  rw[if_neg N]at d;rw[decide_eq_false N];obtain⟨q,hq⟩:=Int.eq_ofNat_of_zero_le m.1;have J:q<h.cl:=O1
  obtain⟨P,c,ga,gl,gc,aa,al,ac,an,ag,ar,am,hg,aw,ha,W,I⟩:=(ab.lg C.lg.frz2).case J;have X:=Bk.aft1_at an;have V:=ak.af c I;have L:x.toNat=q:=O1
  rw[L,X]at d;refine⟨_,(E.lg C.lg).sees3 (o:=1) rfl,O,i,⟨r,rfl,hlt⟩,_,hs.lg C.lg,P,q,⟨ag,hq,J⟩,_,(am.lg Qp).cell (i:=3) rfl,0,i,⟨rfl,rfl,O1,O1⟩,?_⟩;rw[t]
  conv=>whnf
  intro U5 h5 _;have A:=C.trans h5;refine⟨Qga.any,(Qoa aa a al ac (i-0) (cap-0) c.af (l.take i) ((ha.lg h5.lg.frz2).lg Qp) (K U5 A) W O1).go λ _=>?_⟩;rw[Zbz j λ n D=>(V n D).1];cases s:(c.af.map Int.toNat).all λ k=>((l.take i).map Int.toNat).contains k with
  |false=>
   rw[s,if_neg S1]at d;rw[d]
   repeat refine⟨rfl,?_⟩
   conv=>whnf
   exact e.trans A.lg
  |true=>
   rw[s,if_pos rfl]at d
   repeat refine⟨rfl,?_⟩
   refine⟨ah,rfl,i+1,T1,⟨g.trans A,O1,λ n D=>?_,by rw[d,Ji hx,map_append,<- L];rfl⟩,L1⟩;rw[Ji hx,mem_append,mem_singleton]at D;rcases D with D|rfl
   .exact j n D
   .exact m.1
 have av:i=len:=by simp at F;omega
 rw[drop_eq_nil_of_le O1]at d;rw[d]
 repeat refine⟨rfl,?_⟩
 conv=>whnf
 exact e
def Qvv{b:Bk}:∀{l:List Int}{o:List Nat},b.ordL o l=0->∀n∈l,0<=n/\n.toNat<b.cs.length
 |[],_,_,n,a=>by cases a
 |x::l,o,h,n,a=>by
  rw[b.ordL_cons]at h;split at h
  .rename_i hb
   have c:0<=x/\x.toNat<b.cs.length:=by
    unfold Bk.nc at hb;simp only[btw,Bool.and_eq_true,decide_eq_true_eq]at hb;omega
   split at h
   .cases h
   .split at h
    .rcases mem_cons.1 a with rfl|a
     .exact c
     .exact Qvv h n a
    .cases h
  .cases h
def Qbj(h:BH)(b:Bk)(K:Zq U.frz h b)(A:h.rl<=h.rc)(a:Option Addr)(len cap:Nat)(l:List Int)(F:Z5 U.frz a len l)(e:len<2^60)(q:len<=cap) :
  Qb S 22 #[h.v,.slice a len cap] (λ v U'=>(∃C D,v=.tuple #[C,D,.int .i64 (b.outF l)]/\WQ U'.frz C (if b.outF l=0 then(b.ends (l.map Int.toNat)).1 else[])/\WQ U'.frz D (if b.outF l=0 then(b.ends (l.map Int.toNat)).2 else[]))/\U.le U') U:=by
 refine Qb.of (args:=[_,_]) Qp5 Qf S1 ?_
 repeat refine⟨rfl,?_⟩
 conv=>whnf
 intro B E c p;have p:Zi E B #[.slice h.ra h.rl h.rc,.slice h.ca h.cl h.cc]:=p;have j:=K.lg c.lg.frz2;have r:=F.lg c.lg.frz2;have M:=F.1;refine⟨_,⟨rfl,p.rd⟩,?_⟩;refine⟨D6.any,(xZ h b j A).go λ _=>?_⟩;by_cases m:b.flaw Qu=0
 rotate_left
 .have u:b.outF l=b.flaw Qu:=by unfold Bk.outF;rw[if_neg m]
  rw[u,if_neg m,if_neg m]
  repeat refine⟨rfl,?_⟩
  conv=>whnf
  apply Qe<;>intro y
  .repeat refine⟨rfl,?_⟩
   conv=>whnf
   exact⟨⟨_,_,rfl,.nil,.nil⟩,c⟩
  .exact absurd (by simpa using y) m
 have t:=Bk.ok_of m;have u:b.outF l=b.ordF l:=by unfold Bk.outF;rw[if_pos m]
 rw[m,u]
 repeat refine⟨rfl,?_⟩
 refine⟨_,⟨rfl,p.rd⟩,?_⟩;refine⟨Qqa.any,(Qek h b j t a len cap l r e q).go λ _=>?_⟩;by_cases g:b.ordF l=0
 rotate_left
 .rw[if_neg g,if_neg g]
  repeat refine⟨rfl,?_⟩
  conv=>whnf
  apply Qe<;>intro y
  .repeat refine⟨rfl,?_⟩
   conv=>whnf
   exact⟨⟨_,_,rfl,.nil,.nil⟩,c⟩
  .exact absurd (by simpa using y) g
 have f:∀n∈l,0<=n/\n.toNat<b.cs.length:=by
  unfold Bk.ordF at g;split at g
  .cases g
  .exact Qvv g
 have s:(l.map Int.toNat).map (λ(k:Nat)=>(k:Int))=l:=by
  rw[map_map]
  conv=>rhs;rw[<- map_id l]
  refine map_congr_left λ n z=>?_;have:=(f n z).1;show((n.toNat:Nat):Int)=n;omega
 have o:len=(l.map Int.toNat).length:=by rw[length_map];omega
 rw[g,if_pos rfl,if_pos rfl]
 repeat refine⟨rfl,?_⟩
 refine⟨_,⟨rfl,p.rd⟩,?_⟩
 conv=>whnf
 have d:=Qlg (S:=S) (U:=E) h b j t a cap (l.map Int.toNat) (by rw[s,<- o];exact r) (λ i L=>by obtain⟨n,z,rfl⟩:=mem_map.1 L;exact(f n z).2) (by rw[<- o];exact e);rw[<- o]at d;refine⟨Qvo.any,d.mono ?_⟩;rintro _ P⟨⟨C,D,rfl,⟨G,I,rfl,N⟩,⟨H,J,rfl,O⟩⟩,w⟩-
 repeat refine⟨rfl,?_⟩
 conv=>whnf
 exact⟨⟨_,_,rfl,⟨G,I,rfl,N⟩,⟨H,J,rfl,O⟩⟩,c.trans w⟩
end Go.Proofs
namespace Go.TM
def WQ.bc{T:Type}{U:Qa T}{v:Value}{l:List Bool}(h:WQ U v l):∃a c,v=.slice a l.length c/\WX U a l.length l:=let ⟨a,c,e,r⟩:=h;⟨a,c,e,rfl,r⟩
end Go.TM
namespace Go.Proofs
open Go.TM
attribute [local irreducible] Qb Zl Wt
set_option maxHeartbeats 2000000 in
def Q0j{U:Qa Tk}(o:U.tok=⟨0,.out,none⟩)(N:WA U)(h:BH)(b:Bk)(z:Zq U.frz h b)(O:DH b)(D:h.rl<=h.rc)(aa:h.cl<=h.cc)(a:Option Addr)(len cap:Nat)(l:List Int)(hl:Z5 U.frz a len l)(n:len<2^60)(A:len<=cap) :
  J (Zb prog 209 6) (QA prog λ v U'=>v=.bool true/\U.lg U') true (Rf (Frame.enter prog 3 #[h.v,.slice a len cap] .normal) []) U:=by
 refine Zpy (args:=[_,_]) (Q:=λ v U'=>v=.bool true/\U.lg U') Q41 Qf K1 S1 (λ v U' q=>q.2.tok.trans o) ?_;have r:∀y:Qa Tk,U.lg y->Qb (Zb prog 209 6) 20 #[] (λ v U'=>v=.bool true/\U'=y) y:=λ y h=>Zm2 (h.tok.trans o) (N.lg h)
 repeat refine⟨rfl,?_⟩
 conv=>whnf
 intro B P e K;have K:Zi P B #[.slice h.ra h.rl h.rc,.slice h.ca h.cl h.cc]:=K;have i:=z.lg e.lg.frz2;have C:=hl.lg e.lg.frz2;have j:∀w:Qa Tk,P.le w->Jn w ⟨B,0,none⟩ [.slice h.ra h.rl h.rc,.slice h.ca h.cl h.cc]:=λ w I=>(K.lg I.lg).rd;refine⟨_,⟨rfl,j _ (.refl _)⟩,Er.any,(vY h b i O).mono ?_⟩;rintro _ U'⟨⟨g,rfl⟩,L⟩-;obtain rfl:=L.symm;cases g with
 |true=>
  refine⟨yL.any,(r _ e.lg).go λ _=>?_⟩
  repeat refine⟨rfl,?_⟩
  conv=>whnf
  exact e.lg
 |false=>
 repeat refine⟨rfl,?_⟩
 conv=>whnf
 apply Qe<;>intro H
 .refine⟨yL.any,(r _ e.lg).go λ _=>?_⟩
  repeat refine⟨rfl,?_⟩
  conv=>whnf
  exact e.lg
 refine⟨_,⟨rfl,j _ (.refl _)⟩,YQ.any,(IR h b i (N.lg e.lg) a len cap l C n).mono ?_⟩;rintro _ y⟨⟨v1,v2,rfl,Y,Z⟩,k⟩-;obtain⟨xa,xc,rfl,V⟩:=Y.bc;obtain⟨ya,yc,rfl,W⟩:=Z.bc;refine⟨_,⟨rfl,j _ k⟩,Qp5.any,(Qbj h b (i.lg k.lg.frz2) D a len cap l (C.lg k.lg.frz2) n A).mono ?_⟩;rintro _ U3⟨⟨v3,v4,rfl,b3,b4⟩,u⟩-;obtain⟨ua,uc,rfl,T⟩:=b3.bc;obtain⟨wa,wc,rfl,I⟩:=b4.bc;have f:=k.trans u;have ac:∀s:List Bool,s.length<=2^59->s.length<2^60:=λ s hs=>O1
 have F:∀(c:Prop)[Decidable c](s:List Bool),s.length<2^60->(if c then s else[]).length<2^60:=λ c _ s hs=>by split <;> simp <;> omega
 have he:=b.ends_len (l.map Int.toNat);have S:=z.rl;have R:=z.cl;have ae:=z.rs.1;have ab:=z.cs.1;generalize hS:(if b.outF l=0 then(b.ends (l.map Int.toNat)).1 else[])=s at V T ⊢;generalize hW:(if b.outF l=0 then(b.ends (l.map Int.toNat)).2 else[])=w at W I ⊢;have E:s.length<2^60:=by rw[<- hS];exact F _ _ O1
 have G:w.length<2^60:=by rw[<- hW];exact F _ _ O1
 generalize ad:b.outF l=of;refine⟨_,⟨rfl,j _ f⟩,.int .i64 (b.flaw Qu),λ U' d _=>?_,?_⟩
 .refine⟨VA.any,(O4 h b (((i.lg f.lg.frz2).lg d.lg.frz2).lg Qp) (N.lg (e.lg.trans (f.lg.trans d.lg)))).mono ?_⟩;rintro _ p⟨rfl,t⟩-;exact⟨rfl,_,.refl _,t▸.refl _⟩
 refine⟨_,⟨rfl,j _ f⟩,.int .i64 (b.flaw Qu),λ U' d _=>?_,?_⟩
 .refine⟨D6.any,(xZ h b ((i.lg f.lg.frz2).lg d.lg.frz2) D).mono ?_⟩;rintro _ p⟨rfl,t⟩-;exact⟨rfl,_,.refl _,t▸.refl _⟩
 repeat refine⟨rfl,?_⟩
 conv=>whnf
 apply Zr<;>intro H
 rotate_left
 .exact absurd H S1
 refine⟨.bool true,λ U' d _=>?_,?_⟩
 .refine⟨PR.any,(W0 xa ua s.length xc s.length uc s s ((V.lg (u.lg.frz2.trans d.lg.frz2)).lg Qp) ((T.lg d.lg.frz2).lg Qp) E).mono ?_⟩;rintro _ p⟨rfl,t⟩-;exact⟨S1,_,.refl _,t▸.refl _⟩
 refine⟨.bool true,λ U' d _=>?_,?_⟩
 .refine⟨PR.any,(W0 ya wa w.length yc w.length wc w w ((W.lg (u.lg.frz2.trans d.lg.frz2)).lg Qp) ((I.lg d.lg.frz2).lg Qp) G).mono ?_⟩;rintro _ p⟨rfl,t⟩-;exact⟨S1,_,.refl _,t▸.refl _⟩
 conv=>whnf
 intro X M _;have m:U.lg X:=e.lg.trans (f.lg.trans M.lg)
 repeat refine⟨rfl,?_⟩
 conv=>whnf
 apply Zr<;>intro H
 rotate_left
 .exact absurd H S1
 refine⟨yL.any,(r _ m).go λ _=>?_⟩
 repeat refine⟨rfl,?_⟩
 conv=>whnf
 exact m
end Go.Proofs

