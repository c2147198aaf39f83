/- Lemmas. No conditions. -/
import Derived.Test.YtnpfcnfhfkflhaaGreatDoorC03
import Derived.Test.YtnpfcnfhfkflhaaGreatDoorC00
set_option linter.all false
open List
open Go.Proofs.Tryz (prog)
set_option maxRecDepth 100000
namespace Go.TM
variable{T:Type}{P:Program}{S:Sys P T}
structure Hlr(U:Qa T)(b:Nat)(e:TypeId)(c:Array Value)(U':Qa T):Prop where
 imm:∀x o,U.I x=some o->U'.I x=some o
 own:U'.M=.obj b (.cells c e (0,0))::U.M
 tok:U'.tok=U.tok
 new:U.I b=none
def Hlr.le{U U' a:Qa T}{b:Nat}{e:TypeId}{c:Array Value}(h:Hlr U b e c U')(k:U'.le a):Hlr U b e c a:=⟨λ x o i=>k.imm x o (h.imm x o i),k.own.trans h.own,k.tok.trans h.tok,h.new⟩
def Hlr.frz2{U U':Qa T}{b:Nat}{e:TypeId}{c:Array Value}(h:Hlr U b e c U'):U.frz.lg U'.frz:=⟨h.imm,⟨[],rfl⟩,h.tok⟩
def Hlr.frz1{U U':Qa T}{b:Nat}{e:TypeId}{c:Array Value}(h:Hlr U b e c U'):U.frz.lg U':=⟨h.imm,⟨_,(append_nil _).symm⟩,h.tok⟩
def Hlr.made{U U':Qa T}{b:Nat}{e:TypeId}{c:Array Value}(h:U.le U')(d:U'.free b):Hlr U b e c (U'.put b (.cells c e)):=by
 refine⟨h.imm,by show _::U'.M=_;rw[h.own],h.tok,?_⟩;cases a:U.I b with
 |none=>rfl
 |some o=>have:=h.imm b o a;rw[d.1]at this;cases this
def Hlr.write{U U':Qa T}{b:Nat}{e:TypeId}{c:Array Value}{vs:List Value}{Q:Qa T->Prop}(h:Hlr U b e c U')(d:c.size=vs.length)(g:∀v∈vs,v.single=true)(f:∀a,U.le a->Zi a b vs.toArray->Q a):ZA ⟨b,0,none⟩ vs 0 (λ U'=>∃a,Qw U' a/\Q a) U':=by
 refine VP [] vs 0 c U' h.own g O1 ?_;rw[Y7 d];refine⟨_,We (b:=b) (M':=U.M) (Perm.refl _),f _ ⟨λ x o i=>?_,rfl,h.tok⟩ Zi.new⟩;show JI U'.I b _ x=_;unfold JI;rw[if_neg]
 .exact h.imm x o i
 .rintro rfl;rw[h.new]at i;cases i
end Go.TM
namespace Go.Proofs
open Go.TM
def Zpi:C:=(.seq (.reg [.xb 4 false])
 (.seq (.seq (.reg [.xv 5 0])
 (.block 0 (.loop (.seq (.seq (.reg [.m 6 5,.m 7 0,.xn 8 7,.xc 9 .lss 6 8])
 (.ite (.t 9) .skip (.exit 0)))
 (.seq (.block 1 (.seq (.reg [.m 12 0,.m 13 5,.xi 14 1 12 13,.xl 15 14,.m 16 1,.xc 17 .eql 15 16])
 (.ite (.t 17) (.seq (.reg [.xb 4 true])
 .ret) .skip)))
 (.reg [.m 10 5,.xa 11 10,.m 5 11]))))))
 (.seq (.reg [.xb 4 false])
 .ret)))
def Qzk:Zf prog 38 18 Zpi [.t 4]:=.o [] [] Tryz.func38 K1
variable{T:Type}{S:TM.Sys prog T}{U:Qa T}
attribute [local irreducible] Qb Zl Wt
def Qga(a:Option Addr)(len cap:Nat)(l:List Int)(e:Z5 U a len l)(g:len<2^60)(n:Int) :
  Qb S 38 #[.slice a len cap,.int .i64 n] (λ v U'=>v=.bool (l.contains n)/\U'=U) U:=by
 refine Qb.of (args:=[_,_]) Qzk Qf S1 ?_
 repeat refine⟨rfl,?_⟩
 refine⟨Nat,λ i=>[(0,.slice a len cap),(1,.int .i64 n),(5,.int .i64 i)],λ i U'=>U'=U/\i<=len/\n∉l.take i,λ i=>len-i,0,T1,⟨rfl,O1,S1⟩,?_⟩;rintro i f _⟨rfl,q,b⟩
 repeat refine⟨rfl,?_⟩
 conv=>whnf
 apply Qe<;>intro d
 .have hlt:i<len:=by simpa using d
  obtain⟨j,x,h,rfl,o,m⟩:=e.at hlt;refine⟨j,i,⟨rfl,rfl,hlt⟩,_,m,?_⟩
  repeat refine⟨rfl,?_⟩
  conv=>whnf
  apply Qe<;>intro d
  .repeat refine⟨rfl,?_⟩
   conv=>whnf
   have c:x=n:=by simpa using d
   refine⟨?_,rfl⟩;have:n∈l:=c▸mem_of_getElem? h;simp[this]
  .have c:x≠n:=by simpa using d
   refine⟨I1,?_⟩;refine⟨rfl,i+1,T1,⟨rfl,O1,?_⟩,L1⟩;rw[Ji h];simp[b,Ne.symm c]
 .have hge:len<=i:=by simpa using d
  repeat refine⟨rfl,?_⟩
  refine⟨?_,rfl⟩;have:l.take i=l:=take_of_length_le (by rw[e.1];exact hge);rw[this]at b;simp[b]
end Go.Proofs
namespace Go.TM
variable{T:Type}{U:Qa T}
def boC(l:List Bool):List Value:=l.map .bool
def Zc5(l:List Bool)(i:Nat)(x:Bool):(boC l).toArray.setIfInBounds i (.bool x)=(boC (l.set i x)).toArray:=by
 simp[boC,map_set]
def WX.of{b:Nat}{l:List Bool}(h:Jn U ⟨b,0,none⟩ (boC l)):WX U (some ⟨b,0,none⟩) l.length l:=
 ⟨rfl,λ i x a=>⟨_,rfl,rfl,by rw[Nat.mul_one];exact h i _ (by simp[boC,a])⟩⟩
def Zpk{n i:Nat}(h:i<n):(replicate i true++replicate (n-i) false).set i true=replicate (i+1) true++replicate (n-(i+1)) false:=by
 obtain⟨m,e⟩:∃m,n-i=m+1:=⟨n-i-1,O1⟩;rw[set_append_right _ _ S1,e];simp only[length_replicate,Nat.sub_self,replicate_succ,set_cons_zero];rw[show n-(i+1)=m by omega,<- replicate_succ,replicate_succ',append_assoc];rfl
def Zpp{P:Program}{t:TypeId}(h:(match P.info? t with|some a=>a.zero.isSome&&(match a.zero with|some (.bool false)=>true|_=>false)&&a.size==1&&decide (a.bytes<=64)|none=>false)=true):∃a,P.info? t=some a/\a.zero=some (.bool false)/\a.size=1/\a.bytes<=64:=by
 split at h
 .rename_i a hi;simp only[Bool.and_eq_true,beq_iff_eq,decide_eq_true_eq]at h;obtain⟨⟨⟨e,b⟩,c⟩,d⟩:=h;refine⟨a,hi,?_,c,d⟩;split at b
  .assumption
  .cases b
 .cases h
def Zpx{P:Program}{S:Sys P T}{f:FuncId}{args:Array Value}{s w:List Bool}(h:Qb S f args (λ v U'=>∃g a,v=.tuple #[.slice (some ⟨g,0,none⟩) s.length s.length,.slice (some ⟨a,0,none⟩) w.length w.length]/\U'.M=.obj g (.cells (boC s).toArray 4 (0,0))::.obj a (.cells (boC w).toArray 4 (0,0))::U.M/\(∀x o,U.I x=some o->U'.I x=some o)/\U'.tok=U.tok) U) :
  Qb S f args (λ v U'=>(∃d z,v=.tuple #[d,z]/\WQ U'.frz d s/\WQ U'.frz z w)/\U.le U') U:=by
 have A:Qb S f args (λ v U'=>∃d a,v=.tuple #[d,.slice (some ⟨a,0,none⟩) w.length w.length]/\WQ U'.frz d s/\U'.M=.obj a (.cells (boC w).toArray 4 (0,0))::U.M/\(∀x o,U.I x=some o->U'.I x=some o)/\U'.tok=U.tok) U:=by
  refine h.sep λ v U' n⟨g,a,r,m,l,q⟩=>?_;obtain⟨e,u,b,y⟩:=EF (U:={ U' with M:=.obj a (.cells (boC w).toArray 4 (0,0))::U.M }) n m (λ _ _ h=>h) rfl rfl;have j:Zi e.frz g (boC s).toArray:=⟨4,(0,0),y⟩;exact⟨e,u,_,a,r,j.bools (λ i x c=>by simp[boC,c]),b.own,λ x o c=>b.imm x o (l x o c),b.tok.trans q⟩
 refine A.sep λ v U' n⟨d,a,r,t,m,l,q⟩=>?_;obtain⟨e,u,b,y⟩:=EF (U:={ U' with M:=U.M }) n m (λ _ _ h=>h) rfl rfl;have j:Zi e.frz a (boC w).toArray:=⟨4,(0,0),y⟩;have B:U'.frz.lg e.frz:=⟨b.imm,⟨[],rfl⟩,b.tok⟩;exact⟨e,u,⟨_,_,r,t.lg B,j.bools (λ i x c=>by simp[boC,c])⟩,⟨λ x o c=>b.imm x o (l x o c),b.own,b.tok.trans q⟩⟩
end Go.TM
namespace Go.Proofs
open Go.TM
variable{T:Type}{S:TM.Sys prog T}{U:Qa T}
attribute [local irreducible] Qb Zl Wt
def Zc3(a h:Option Addr)(len cap b c:Nat)(l g:List Int)(s:Z5 U a len l)(m:Z5 U h b g)(t:len<2^60)(e:b<2^60) :
  Qb S 127 #[.slice a len cap,.slice h b c] (λ v U'=>v=.bool (l.all λ n=>g.contains n)/\U'=U) U:=by
 refine Qb.of (args:=[_,_]) Q4v Qf S1 ?_;have y:=s.1;refine⟨Nat,λ i=>[(0,.slice a len cap),(1,.slice h b c),(5,.int .i64 i)],λ i U'=>U'=U/\i<=len/\(l.take i).all (λ n=>g.contains n)=true,λ i=>len-i,0,T1,⟨rfl,O1,rfl⟩,?_⟩;rintro i f _⟨rfl,B,d⟩;have j:Zu ((i:Int)+1):=I1
 repeat refine⟨rfl,?_⟩
 conv=>whnf
 apply Qe<;>intro q
 .have hlt:i<len:=by simpa using q
  obtain⟨w,x,u,rfl,A,z⟩:=s.at hlt;refine⟨w,i,⟨rfl,rfl,hlt⟩,_,z,Qzk.any,(Qga h b c g m e x).go λ _=>?_⟩;cases r:g.contains x with
  |false=>
   have o:(l.all λ n=>g.contains n)=false:=by
    rw[all_eq_false];exact⟨x,mem_of_getElem? u,by rw[r];simp⟩
   rw[o]
   repeat refine⟨rfl,?_⟩
   conv=>whnf
  |true=>
   repeat refine⟨rfl,?_⟩
   refine⟨j,?_⟩
   conv=>whnf
   exact⟨rfl,i+1,T1,⟨rfl,O1,by rw[Ji u,all_append,d];simp only[all_cons,all_nil,r];rfl⟩,L1⟩
 .have hge:i=len:=by simp at q;omega
  rw[take_of_length_le O1]at d;rw[d]
  repeat refine⟨rfl,?_⟩
  conv=>whnf
def Q4u(c:Cs)(P aa:Option Addr)(h gc al ac:Nat)(L:J3 U P h c.gs)(an:h<2^60)(sa:Option Addr)(sl sc:Nat)(s:List Bool)(X:WX U sa sl s)(V:∀g∈c.gs,∀n∈g,0<=n/\n.toNat<sl) :
  Qb S 128 #[.agg #[.string c.nm,.int .i64 c.ag,.slice P h gc,.slice aa al ac],.slice sa sl sc] (λ v U'=>v=.bool (Iq c.gs s)/\U'=U) U:=by
 refine Qb.pure' (Qb.of (args:=[_,_]) Q4w Qf S1 ?_);have ah:=L.1
 repeat refine⟨rfl,?_⟩
 conv=>whnf
 intro B M d q;have q:Zi M B #[.string c.nm,.int .i64 c.ag,.slice P h gc,.slice aa al ac]:=q;have L:=L.lg d.lg;have X:=X.lg d.lg;refine⟨Nat,λ i=>[(1,.slice sa sl sc),(2,.pointer (some ⟨B,0,none⟩)),(5,.int .i64 i)],λ i U'=>U'=M/\i<=h/\Iq (c.gs.take i) s=false,λ i=>h-i,0,T1,⟨rfl,O1,rfl⟩,?_⟩;rintro i f U2⟨Q,hi,e⟩;obtain rfl:=Q.symm;have F:Zu ((i:Int)+1):=I1
 refine⟨_,q.sees3 (o:=2) rfl,?_⟩
 repeat refine⟨rfl,?_⟩
 conv=>whnf
 apply Qe<;>intro u
 .have hlt:i<h:=by simpa using u
  obtain⟨ad,g,ak,b,am,hx,w,ao,H,E,af,D⟩:=L.at hlt;have ae:=E.1;have C:=V g D
  have m:Iq (c.gs.take (i+1)) s=g.all λ r=>s.getD r.toNat false:=by
   unfold Iq at e ⊢;rw[Ji hx,any_append,e];simp
  refine⟨Nat×Bool,λ y=>[(1,.slice sa sl sc),(2,.pointer (some ⟨B,0,none⟩)),(5,.int .i64 i),(6,.bool y.2),(7,.int .i64 y.1)],λ y U'=>U'=M/\y.1<=b/\((g.take y.1).all λ r=>s.getD r.toNat false)=y.2,λ y=>b-y.1,(0,true),T1,⟨rfl,S1,rfl⟩,?_⟩;rintro⟨j,t⟩f U2⟨Q,hj,I⟩;obtain rfl:=Q.symm;simp only at hj I;have l:Zu ((j:Int)+1):=I1
  refine⟨_,q.sees3 (o:=2) rfl,ad,i,⟨w,rfl,hlt⟩,_,H,?_⟩
  repeat refine⟨rfl,?_⟩
  conv=>whnf
  apply Qe<;>intro u
  .have hltj:j<b:=by simpa using u
   obtain⟨N,n,J,z,ai,Y⟩:=E.at hltj;obtain⟨W,G⟩:=C n (mem_of_getElem? J);have a:((g.take (j+1)).all λ r=>s.getD r.toNat false)=(t&&s.getD n.toNat false):=by rw[Ji J,all_append,I];simp
   cases t with
   |false=>
    refine⟨l,?_⟩
    conv=>whnf
    exact⟨rfl,(j+1,false),T1,⟨rfl,by show j+1<=b;omega,a⟩,L1⟩
   |true=>
    obtain⟨O,x,ab,A,aj,Z⟩:=X.at G;have R:s.getD n.toNat false=x:=by simp[getD_eq_getElem?_getD,ab]
    refine⟨_,q.sees3 (o:=2) rfl,ad,i,⟨w,rfl,hlt⟩,_,H,N,j,⟨z,rfl,hltj⟩,_,Y,O,n.toNat,⟨A,(Int.toNat_of_nonneg W).symm,G⟩,_,Z,l,?_⟩
    conv=>whnf
    exact⟨rfl,(j+1,x),T1,⟨rfl,by show j+1<=b;omega,by rw[a,R];rfl⟩,L1⟩
  have T:j=b:=by simp at u;omega
  rw[take_of_length_le O1]at I;cases t with
  |true=>
   have K:Iq c.gs s=true:=by
    unfold Iq;rw[any_eq_true];exact⟨g,D,I⟩
   rw[K]
   repeat refine⟨rfl,?_⟩
   conv=>whnf
   exact d.lg
  |false=>
   refine⟨F,?_⟩
   conv=>whnf
   exact⟨rfl,i+1,T1,⟨rfl,O1,by rw[m,I]⟩,L1⟩
 .have T:i=h:=by simp at u;omega
  rw[take_of_length_le O1]at e;rw[e]
  repeat refine⟨rfl,?_⟩
  conv=>whnf
  exact d.lg
def Zpu:∃a,prog.info? 4=some a/\a.zero=some (.bool false)/\a.size=1/\a.bytes<=64:=Zpp K1
def Qlg:prog.underlying 29=some (.slice 4):=K1
set_option maxHeartbeats 2000000 in
def Qf7(h:BH)(b:Bk)(hb:Zq U.frz h b)(W:b.Ok)(a:Option Addr)(cap:Nat)(o:List Nat)(ho:Z5 U.frz a o.length (o.map λ(k:Nat)=>(k:Int)))(a6:∀i∈o,i<b.cs.length)(bt:o.length<2^60) :
  Qb S 72 #[h.v,.slice a o.length cap] (λ v U'=>(∃v1 v2,v=.tuple #[v1,v2]/\WQ U'.frz v1 (b.ends o).1/\WQ U'.frz v2 (b.ends o).2)/\U.le U') U:=by
 refine Zpx (Qb.of (args:=[_,_]) Q0h Qf S1 ?_);have ao:=hb.cs.1;have ap:=hb.rs.1;have b0:=W.nr;have bz:=W.nc;obtain⟨i4,Y,Z,ab,ae⟩:=Zpu
 repeat refine⟨rfl,?_⟩
 conv=>whnf
 intro B F H hB;have hB:Zi F B #[.slice h.ra h.rl h.rc,.slice h.ca h.cl h.cc]:=hB;have T:Zi F.frz B #[.slice h.ra h.rl h.rc,.slice h.ca h.cl h.cc]:=hB;have bh:=hb.lg H.lg.frz2
 let ZR:List Bool:=replicate h.rl false
 let J:List Bool:=replicate h.cl false
 have ay:(replicate h.rl (Value.bool false)).toArray=(boC ZR).toArray:=by simp[boC,ZR]
 have ax:(replicate h.cl (Value.bool false)).toArray=(boC J).toArray:=by simp[boC,J]
 let I:Nat->Nat->List Bool->List Bool->List Qx:=λ d m s w=>.obj d (.cells (boC s).toArray 4 (0,0))::.obj m (.cells (boC w).toArray 4 (0,0))::U.M
 conv=>whnf
 intro ac N
 refine SQ (mu:=[1009]) (ops:=Pl Tryz.f72 1) (id:=1) N [3,7] [[0,1,2,4,5,6,3,8,7],[0,1,2,4,5,6,7,3,8]] [9] Qp5 Zk5 Qf K1 K1 K1 K1 K1
  (λ f' K U'=>K=[]/\∃d m,XF f' [(1,.slice a o.length cap),(2,.pointer (some ⟨B,0,none⟩)),(6,.slice (some ⟨d,0,none⟩) h.rl h.rl),(18,.slice (some ⟨m,0,none⟩) h.cl h.cl)]/\F.frz.lg U'/\U'.M=I d m ZR J) ?_ ?_
 .intro l u;simp only[Qp5,mem_cons,not_mem_nil,or_false]at u;rcases u with rfl|rfl
  .refine⟨_,T.sees3 (o:=0) rfl,_,T.sees3 (o:=1) rfl,λ v U'=>∃d,v=.slice (some ⟨d,0,none⟩) h.rl h.rl/\F.frz.lg U'/\U'.M=.obj d (.cells (boC ZR).toArray 4 (0,0))::U.M,λ v R x2⟨d,e,u,D⟩r=>⟨d,e,u.trans r.lg,r.own.trans D⟩,λ v U'⟨d,e,u,D⟩=>u,λ U' G=>?_,λ v X=>?_⟩
   .conv=>whnf
    refine EK (n:=h.rl) Qlg Y Z rfl ab ae rfl rfl O1 λ d bp=>?_;refine⟨_,.refl _,d,rfl,⟨λ x o C=>G.imm x o C,⟨_,(append_nil _).symm⟩,G.tok⟩,?_⟩;show _::U'.M=_;rw[G.own,H.own,ay]
   obtain⟨_,d,rfl,-⟩:=X;refine⟨λ v U'=>∃m,v=.slice (some ⟨m,0,none⟩) h.cl h.cl/\F.frz.lg U'/\U'.M=I d m ZR J,λ v R x2⟨d,e,u,D⟩r=>⟨d,e,u.trans r.lg,r.own.trans D⟩,λ v U'⟨d,e,u,D⟩=>u,λ U' G=>?_,λ v X=>?_⟩
   .obtain⟨ar,e,A,z⟩:=G;obtain rfl:d=ar:=by simpa using e
    conv=>whnf
    refine EK (n:=h.cl) Qlg Y Z rfl ab ae rfl rfl O1 λ m br=>?_;refine⟨_,W7 (M':=I d m ZR J) ?_,m,rfl,⟨λ x o C=>A.imm x o C,⟨_,(append_nil _).symm⟩,A.tok⟩,rfl⟩;show(_::U'.M).Perm _;rw[z,ax];exact Perm.swap _ _ _
   obtain⟨_,m,rfl,-⟩:=X
   conv=>whnf
   rintro U'⟨au,e,A,z⟩;obtain rfl:m=au:=by simpa using e
   exact⟨rfl,d,m,T1,A,z⟩
  .refine⟨_,T.sees3 (o:=0) rfl,_,T.sees3 (o:=1) rfl,λ v U'=>∃m,v=.slice (some ⟨m,0,none⟩) h.cl h.cl/\F.frz.lg U'/\U'.M=.obj m (.cells (boC J).toArray 4 (0,0))::U.M,λ v R x2⟨d,e,u,D⟩r=>⟨d,e,u.trans r.lg,r.own.trans D⟩,λ v U'⟨d,e,u,D⟩=>u,λ U' G=>?_,λ v X=>?_⟩
   .conv=>whnf
    refine EK (n:=h.cl) Qlg Y Z rfl ab ae rfl rfl O1 λ m br=>?_;refine⟨_,.refl _,m,rfl,⟨λ x o C=>G.imm x o C,⟨_,(append_nil _).symm⟩,G.tok⟩,?_⟩;show _::U'.M=_;rw[G.own,H.own,ax]
   obtain⟨_,m,rfl,-⟩:=X;refine⟨λ v U'=>∃d,v=.slice (some ⟨d,0,none⟩) h.rl h.rl/\F.frz.lg U'/\U'.M=I d m ZR J,λ v R x2⟨d,e,u,D⟩r=>⟨d,e,u.trans r.lg,r.own.trans D⟩,λ v U'⟨d,e,u,D⟩=>u,λ U' G=>?_,λ v X=>?_⟩
   .obtain⟨au,e,A,z⟩:=G;obtain rfl:m=au:=by simpa using e
    conv=>whnf
    refine EK (n:=h.rl) Qlg Y Z rfl ab ae rfl rfl O1 λ d bp=>?_;refine⟨_,.refl _,d,rfl,⟨λ x o C=>A.imm x o C,⟨_,(append_nil _).symm⟩,A.tok⟩,?_⟩;show _::U'.M=_;rw[z,ay]
   obtain⟨_,d,rfl,-⟩:=X
   conv=>whnf
   rintro U'⟨ar,e,A,z⟩;obtain rfl:d=ar:=by simpa using e
   exact⟨rfl,d,m,T1,A,z⟩
 rintro f' K U3⟨rfl,d,m,L,a5,bc⟩;rw[<- L.ovr];clear L
 conv=>whnf
 intro a' V;refine⟨by rw[V.size,N.size],_,V.get,?_⟩;rw[V.ds];clear V N
 refine⟨Nat,λ i=>[(1,.slice a o.length cap),(2,.pointer (some ⟨B,0,none⟩)),(6,.slice (some ⟨d,0,none⟩) h.rl h.rl),(7,.slice (some ⟨m,0,none⟩) h.cl h.cl),(8,.int .i64 i)],
  λ i U'=>F.frz.lg U'/\i<=h.rl/\U'.M=I d m (replicate i true++replicate (h.rl-i) false) J,λ i=>h.rl-i,0,T1,⟨a5,O1,by rw[bc];simp[ZR]⟩,?_⟩
 rintro i f U4⟨u,hi,D⟩;have bo:Zu ((i:Int)+1):=I1
 repeat refine⟨rfl,?_⟩
 conv=>whnf
 apply Qe<;>intro hc
 .have hlt:i<h.rl:=by simpa using hc
  refine⟨_,i,⟨rfl,rfl,hlt⟩,rfl,gb (L₁:=[]) (by rw[D];exact Perm.refl _) (by simp[boC];omega) rfl λ R k1 k2 k3=>?_⟩
  have z:R.M=I d m (replicate (i+1) true++replicate (h.rl-(i+1)) false) J:=by
   rw[k3,Nat.mul_one];show([]:List Qx)++.obj d (.cells ((boC _).toArray.setIfInBounds i (.bool true)) 4 (0,0))::_=_;rw[Zc5,Zpk hlt];rfl
  refine⟨bo,?_⟩
  conv=>whnf
  exact⟨rfl,i+1,T1,⟨⟨λ x o C=>by rw[k1];exact u.imm x o C,⟨_,(append_nil _).symm⟩,by rw[k2];exact u.tok⟩,O1,z⟩,L1⟩
 have a1:i=h.rl:=by simp at hc;omega
 subst a1;have a3:b.ini=(replicate h.rl true++replicate (h.rl-h.rl) false,J):=by simp[Bk.ini,J,ap,ao]
 refine⟨Nat,λ j=>[(1,.slice a o.length cap),(2,.pointer (some ⟨B,0,none⟩)),(6,.slice (some ⟨d,0,none⟩) h.rl h.rl),(7,.slice (some ⟨m,0,none⟩) h.cl h.cl),(9,.int .i64 j)],
  λ j U'=>F.frz.lg U'/\j<=o.length/\U'.M=I d m (b.ends (o.take j)).1 (b.ends (o.take j)).2,λ j=>o.length-j,0,T1,⟨u,O1,by rw[D];show _=I d m b.ini.1 b.ini.2;rw[a3]⟩,?_⟩
 rintro j f U5⟨P,hj,am⟩;have aj:Zu ((j:Int)+1):=I1
 repeat refine⟨rfl,?_⟩
 conv=>whnf
 apply Qe<;>intro hc
 .have hlt:j<o.length:=by simpa using hc
  obtain⟨n,aq⟩:∃n,o[j]?=some n:=⟨_,getElem?_eq_getElem hlt⟩;have hn:=a6 n (mem_of_getElem? aq);obtain⟨av,x2,ba,ai,bu,a8⟩:=(ho.lg H.lg.frz2).at hlt;obtain rfl:(n:Int)=x2:=by rw[getElem?_map,aq]at ba;exact Option.some.inj ba
  obtain⟨ad,c,ga,gl,gc,aa,al,ac,C,bk,b1,bq,hg,bl,ha,bx,ak⟩:=bh.case (show n<h.cl by omega);have az:b.cas n=c:=by simp[Bk.cas,getD_eq_getElem?_getD,C]
  have bg:=W.ag c ak;have bn:=W.gs c ak;have f5:F.frz.lg U5.frz:=P.frz2;have bb:Zi U5.frz B #[.slice h.ra h.rl h.rc,.slice h.ca h.cl h.cc]:=hB.imI P.imm
  conv=>whnf
  intro bw O
  refine SQ (mu:=[1009]) (ops:=Pl Tryz.f72 9) (id:=9) O [8] [[0,1,2,3,4,5,6,7,8]] [9] Qqa Zk8 Qf K1 K1 K1 K1 K1
   (λ f' K U'=>K=[]/\∃y,XF f' [(1,.slice a o.length cap),(2,.pointer (some ⟨B,0,none⟩)),(6,.slice (some ⟨d,0,none⟩) h.rl h.rl),(7,.slice (some ⟨m,0,none⟩) h.cl h.cl),(9,.int .i64 j),(10,.pointer (some ⟨y,0,none⟩)),(41,.agg #[.string c.nm,.int .i64 c.ag,.slice ga gl gc,.slice aa al ac])]/\Hlr U5 y 49 #[.string ⟨#[]⟩,.int .i64 0,.slice none 0 0,.slice none 0 0] U') ?_ ?_
  .intro l u;simp only[Qqa,mem_cons,not_mem_nil,or_false]at u;subst u;refine⟨_,bb.sees3 (o:=1) rfl,av,j,⟨ai,rfl,hlt⟩,_,a8.lg f5,ad,n,⟨bk,rfl,O1⟩,_,⟨rfl,bq.lg f5⟩,λ v U'=>∃y,v=.pointer (some ⟨y,0,none⟩)/\Hlr U5 y 49 #[.string ⟨#[]⟩,.int .i64 0,.slice none 0 0,.slice none 0 0] U',λ v R x2⟨q,e,hh⟩r=>⟨q,e,hh.le r⟩,λ v U'⟨q,e,hh⟩=>hh.frz1,λ U' G=>?_,λ v X=>?_⟩
   .conv=>whnf
    intro y a0;exact⟨_,.refl _,_,.refl _,y,rfl,Hlr.made G a0⟩
   obtain⟨_,y,rfl,-⟩:=X
   conv=>whnf
   rintro U'⟨aw,e,hh⟩;obtain rfl:y=aw:=by simpa using e
   exact⟨rfl,y,T1,hh⟩
  rintro f' K U6⟨rfl,y,L,a2⟩;rw[<- L.ovr];clear L;refine⟨rfl,a2.write (vs:=[.string c.nm,.int .i64 c.ag,.slice ga gl gc,.slice aa al ac]) rfl (by simp[Value.single]) λ U7 h7 ah=>?_⟩
  conv=>whnf
  intro bv E;refine⟨by rw[E.size,O.size],_,E.get,?_⟩;rw[E.ds];clear E O;have Q:F.frz.lg U7:=P.trans h7.lg;have an:U7.M=I d m (b.ends (o.take j)).1 (b.ends (o.take j)).2:=h7.own.trans am;have a9:=(b.end_len (o.take j));have a7:(b.ends (o.take j)).1.length=h.rl:=by rw[a9.1,ap]
  have bs:(b.ends (o.take j)).2.length=h.cl:=by rw[a9.2,ao]
  have bj:WX U7 (some ⟨d,0,none⟩) h.rl (b.ends (o.take j)).1:=a7▸WX.of (Za [] an);have t:b.ends (o.take (j+1))=b.stp (b.ends (o.take j)) n:=by rw[Ji aq,b.ends_snoc]
  unfold Bk.stp at t;rw[az]at t;refine⟨_,⟨rfl,ah.rd⟩,?_⟩;refine⟨Q4w.any,(Q4u c ga aa gl gc al ac ((hg.lg Q.frz2).lg Qp) bl (some ⟨d,0,none⟩) h.rl h.rl (b.ends (o.take j)).1 bj (λ g bm n hn=>?_)).mono ?_⟩
  .have:=(bn g bm).2 n hn;unfold Bk.nr at this;omega
  rintro _ U'⟨rfl,bf⟩-;obtain rfl:=bf.symm;have af:c.ag=(c.ag.toNat:Int)/\c.ag.toNat<h.rl:=by unfold Bk.nr at bg;omega
  cases hw:Iq c.gs (b.ends (o.take j)).1 with
  |true=>
   rw[if_pos hw]at t;refine⟨av,j,⟨ai,rfl,hlt⟩,_,a8.lg (Qp.trans Q:F.frz.frz.lg U7),_,n,⟨rfl,rfl,O1⟩,rfl,gb (L₁:=[_]) (by rw[an];first|done|exact Perm.refl _) (by simp[boC];omega) rfl λ R k1 k2 k3=>?_⟩
   have bd:R.M=I d m (b.ends (o.take j)).1 ((b.ends (o.take j)).2.set n true):=by
    rw[k3,Nat.mul_one];show([Qx.obj d _]:List Qx)++Qx.obj m (.cells ((boC _).toArray.setIfInBounds n (.bool true)) 4 (0,0))::_=_;rw[Zc5];rfl
   have a4:F.frz.lg R:=⟨λ x o C=>by rw[k1];exact Q.imm x o C,⟨_,(append_nil _).symm⟩,by rw[k2];exact Q.tok⟩;have bi:=ah.imI (U':=R) λ x o C=>by rw[k1];exact C
   refine⟨_,bi.sees3 (o:=1) rfl,_,c.ag.toNat,⟨rfl,af.1,af.2⟩,rfl,gb (L₁:=[]) (by rw[bd];first|done|exact Perm.refl _) (by simp[boC];omega) rfl λ x2 k4 k5 k6=>?_⟩
   have be:x2.M=I d m (b.ends (o.take (j+1))).1 (b.ends (o.take (j+1))).2:=by
    rw[k6,Nat.mul_one,t];show([]:List Qx)++.obj d (.cells ((boC _).toArray.setIfInBounds c.ag.toNat (.bool false)) 4 (0,0))::_=_;rw[Zc5];rfl
   refine⟨aj,?_⟩
   conv=>whnf
   exact⟨rfl,j+1,T1,⟨⟨λ x o C=>by rw[k4];exact a4.imm x o C,⟨_,(append_nil _).symm⟩,by rw[k5];exact a4.tok⟩,O1,be⟩,L1⟩
  |false=>
   rw[if_neg (by simp[hw])]at t;refine⟨aj,?_⟩
   conv=>whnf
   exact⟨rfl,j+1,T1,⟨Q,O1,by rw[an,t]⟩,L1⟩
 have a1:j=o.length:=by simp at hc;omega
 rw[take_of_length_le O1]at am;have he:=b.end_len o
 repeat refine⟨rfl,?_⟩
 conv=>whnf
 exact⟨d,m,by rw[he.1,he.2,ap,ao];rfl,am,λ x o C=>P.imm x o (H.imm x o C),P.tok.trans H.tok⟩
end Go.Proofs
namespace Go.TM
variable{T:Type}{P:Program}{S:Sys P T}{U U':Qa T}
def Qb.pre{f:FuncId}{args:Array Value}{Q:Value->Qa T->Prop}{b:Qa T}(d:Qw U b)(h:Qb S f args Q b):Qb S f args Q U:=λ a m c cs k=>.shift d (h a m c cs k)
def QS.lgs{a:Option Addr}{cs:List Value}(h:QS U a cs)(c:U.lg U'):QS U' a cs:=by
 rcases h with h|⟨b,e,d⟩
 .exact .inl h
 .exact .inr ⟨b,e,d.lg c⟩
def Qcf(U:Qa T)(l:List Int)(v:Value)(U':Qa T):Prop:=(∃a l c,v=.slice a l c)/\U.frz.lg U'/\Acc 3 1 v (l.map λ n=>.int .i64 n) U'.M U.M
def Qcf.le{l:List Int}{v:Value}{a:Qa T}(h:Qcf U l v U')(k:U'.le a):Qcf U l v a:=⟨h.1,h.2.1.trans k.lg,by rw[k.own];exact h.2.2⟩
def Qcf.new{p:Nat}(h:U.le U'):Qcf U [] (.slice (some ⟨p,0,none⟩) 0 0) (U'.put p (.cells #[] 3)):=
 ⟨⟨_,_,_,rfl⟩,⟨λ x o a=>h.imm x o a,⟨_,(append_nil _).symm⟩,h.tok⟩,.inr ⟨p,#[],0,0,rfl,rfl,Nat.le_refl _,rfl,by show _::U'.M=_;rw[h.own],S1⟩⟩
def Qcf.give{f:FuncId}{xs:Value->Array Value}{l:List Int}{v:Value}{Q:Value->Qa T->Prop}(h:Qcf U l v U')
  (k:∀(b:Qa T)a cap,v=.slice a l.length cap->U.le b->Z5 b.frz a l.length l->Qb S f (xs v) Q b):Qb S f (xs v) Q U':=by
 refine Qb.sep0 λ g=>?_;obtain⟨b,m,n,a,len,cap,rfl,e,c,d,-⟩:=h.2.2.freeze g (λ x o j=>h.2.1.imm x o j) h.2.1.tok;simp at e;subst e;exact .pre m (k b a cap rfl n (Vf c d))
def Xn.single{cs:List Value}{g:List (List Int)}(h:Xn U cs g):∀w∈cs,w.single=true:=λ w f=>by
 obtain⟨i,d,e⟩:=mem_iff_getElem.1 f;obtain⟨a,c,b,-⟩:=h.2 i _ (getElem?_eq_getElem (by rw[<- h.1];exact d));rw[getElem?_eq_getElem d,e]at b;rw[Option.some.inj b];rfl
def Xn.app{cs b:List Value}{l c:List (List Int)}(h:Xn U cs l)(a:Xn U b c):Xn U (cs++b) (l++c):=by
 refine⟨by simp[h.1,a.1],λ i x d=>?_⟩;by_cases m:i<l.length
 .rw[getElem?_append_left m]at d;obtain⟨f,j,e,a,g⟩:=h.2 i x d;exact⟨f,j,by rw[getElem?_append_left (by rw[h.1];exact m)];exact e,a,g⟩
 .rw[getElem?_append_right O1]at d;obtain⟨f,j,e,a,g⟩:=a.2 _ x d;exact⟨f,j,by rw[getElem?_append_right (by rw[h.1];omega),h.1];exact e,a,g⟩
def Zcx(U:Qa T)(v:Value)(d:List (List Int)):Prop:=∃a c cells,v=.slice a cells.length c/\QS U.frz a cells/\(∀b,a=some b->b.spot=none)/\Xn U cells d
def Q4x(o:List Nat)(i:Nat):(o.map λ(k:Nat)=>(k:Int)).contains (i:Int)=o.contains i:=by
 rw[Bool.eq_iff_iff,contains_iff_mem,contains_iff_mem,mem_map];exact⟨λ⟨k,a,e⟩=>(by omega:k=i)▸a,λ h=>⟨i,h,rfl⟩⟩
def Bk.aft_all{b:Bk}(d:b.Ok){i:Nat}{c:Cs}(f:b.cs[i]?=some c)(o:List Nat):(c.af.all λ n=>(o.map λ(k:Nat)=>(k:Int)).contains n)=(Je b.A i).all λ k=>o.contains k:=by
 rw[Bk.aft1_at f,all_map,Bool.eq_iff_iff,all_eq_true,all_eq_true]
 have e:∀n∈c.af,(o.map λ(k:Nat)=>(k:Int)).contains n=o.contains n.toNat:=λ n a=>by
  obtain⟨q,rfl⟩:=Int.eq_ofNat_of_zero_le (d.af c (mem_of_getElem? f) n a).1;rw[Q4x];rfl
 exact⟨λ h n a=>by show o.contains n.toNat=true;rw[<- e n a];exact h n a,λ h n a=>by rw[e n a];exact h n a⟩
def Bk.ordsTo_end(b:Bk)(k:Nat)(o:List Nat):b.ordsTo k o b.cs.length=b.ords (k+1) o:=rfl
def Bk.ordsTo_len{b:Bk}(a:b.Ok){k:Nat}(d:k+1<=5)(o:List Nat){m:Nat}(e:m<=b.cs.length):(b.ordsTo k o m).length<=3125:=by
 obtain⟨r,f⟩:=b.ordsTo_le k o e;have c:=b.ords_le a.nc (k+1) o;rw[f,length_append]at c;have g:5^(k+1)<=5^5:=Nat.pow_le_pow_right O1 d;have h:(5:Nat)^5=3125:=D1
 omega
end Go.TM
namespace Go.Proofs
open Go.TM
def Qvv:List (List (Nat×St)):=[[(0,.m 38 5),(0,.xd 39 2 2),(0,.m 41 1),(0,.m 43 6),(2,.d 40 (.bsl 3 0 #[] [])),(2,.xz 42 40 41 26),(2,.d 44 (.bsl 3 1 #[(.int .i64 0)] [(0,1,(.t 43))])),(2,.xz 45 42 44 26),(2,.d 46 (.call (.func 82) #[(.t 39),(.t 45)]))],
 [(0,.m 38 5),(0,.xd 39 2 2),(0,.m 41 1),(0,.m 43 6),(2,.d 40 (.bsl 3 0 #[] [])),(2,.d 44 (.bsl 3 1 #[(.int .i64 0)] [(0,1,(.t 43))])),(2,.xz 42 40 41 26),(2,.xz 45 42 44 26),(2,.d 46 (.call (.func 82) #[(.t 39),(.t 45)]))],
 [(0,.m 38 5),(0,.xd 39 2 2),(0,.m 41 1),(0,.m 43 6),(2,.d 44 (.bsl 3 1 #[(.int .i64 0)] [(0,1,(.t 43))])),(2,.d 40 (.bsl 3 0 #[] [])),(2,.xz 42 40 41 26),(2,.xz 45 42 44 26),(2,.d 46 (.call (.func 82) #[(.t 39),(.t 45)]))]]
def Zm0:List St:=[.xz 47 38 46 47,.m 5 47]
variable{T:Type}{S:TM.Sys prog T}
attribute [local irreducible] Qb Zl Wt
set_option maxHeartbeats 4000000 in
def Qek(h:BH)(b:Bk)(an:b.Ok)(bp:b.cs.length=h.cl):∀(m:Nat)(o:List Nat)(U:Qa T),Zq U.frz h b->∀(pa:Option Addr)(pc:Nat),Z5 U.frz pa o.length (Qae o)->o.length+m=h.cl ->
  Qb S 82 #[h.v,.slice pa o.length pc] (λ v U'=>Zcx U' v ((b.ords m o).map Qae)/\U.le U') U:=by
 intro m
 induction m with
 |zero=>
  intro o U hb pa pc hO a4;have bi:=an.nc
  have ao:Qb S 82 #[h.v,.slice pa o.length pc] (λ v U'=>∃p a l c,v=.slice (some ⟨p,0,none⟩) 1 1/\Zi U' p #[.slice a l c]/\Qcf U (Qae o) (.slice a l c) U') U:=by
   refine Qb.of (args:=[_,_]) Qdc Qf S1 ?_
   repeat refine⟨rfl,?_⟩
   conv=>whnf
   intro B W R hB;have hB:Zi W B #[.slice h.ra h.rl h.rc,.slice h.ca h.cl h.cc]:=hB;refine⟨_,hB.sees3 (o:=1) rfl,?_⟩
   repeat refine⟨rfl,?_⟩
   conv=>whnf
   apply Qe<;>intro hc
   rotate_left
   .exfalso;simp at hc;omega
   conv=>whnf
   intro aj bl;refine⟨_,.refl _,?_⟩;have hn:Qcf U [] (.slice (some ⟨aj,0,none⟩) 0 0) (W.put aj (.cells #[] 3)):=.new R
   conv=>whnf
   refine Ws (v:=.slice (some ⟨aj,0,none⟩) 0 0) (cs:=([]:List Int).map λ n=>.int .i64 n) (new:=(Qae o).map λ n=>.int .i64 n) (M₀:=U.M) Hf rfl rfl hn.2.2 ((hO.lg hn.2.1.frz2).lg Qp).src' (by simp[Qae]) (by simp[Value.single]) (by simp[Qae];omega) λ v' M' q _=>?_;obtain⟨ta,tl,tc,rfl,-⟩:=Acc.src (U:={ (W.put aj (.cells #[] 3))with M:=M' }) q;have ba:Qcf U (Qae o) (.slice ta tl tc) ({ (W.put aj (.cells #[] 3))with M:=M' }:Qa T):=⟨⟨_,_,_,rfl⟩,⟨hn.2.1.imm,⟨_,(append_nil _).symm⟩,hn.2.1.tok⟩,by simpa using q⟩
   conv=>whnf
   intro a7 a2;refine Zk a2 λ U2 a9 a1=>?_
   repeat refine⟨rfl,?_⟩
   conv=>whnf
   exact⟨a7,ta,tl,tc,rfl,a1,ba.le a9⟩
  refine ao.sep λ v U' hs⟨p,a,l,c,e,bd,r⟩=>?_;obtain⟨W,k1,Q,a',len,cap,e',hl,P,ar,-⟩:=Acc.freeze (U:={ U' with M:=U.M }) hs r.2.2 (λ _ _ h=>h) rfl;obtain⟨rfl,rfl,rfl⟩:a=a'/\l=len/\c=cap:=by simpa using e'
  have hz:U'.frz.lg W.frz:=⟨Q.imm,⟨[],rfl⟩,Q.tok⟩;have aw:(Qae o).length=l:=by simpa[Qae]using hl
  have hI:=Vf P ar;refine⟨W,k1,⟨some ⟨p,0,none⟩,1,[.slice a l c],e,.inr ⟨_,rfl,((show Zi U'.frz p #[.slice a l c] from bd).lg hz).rd⟩,(λ ad e=>by cases e;rfl),rfl,λ i x hx=>?_⟩,⟨λ x u hx=>Q.imm x u (r.2.1.imm x u hx),Q.own,Q.tok.trans r.2.1.tok⟩⟩;have hx:[Qae o][i]?=some x:=hx
  obtain⟨rfl,rfl⟩:i=0/\x=Qae o:=by
   cases i with
   |zero=>exact⟨rfl,by simpa using hx.symm⟩
   |succ i=>simp at hx
  exact⟨a,c,by rw[aw];rfl,hI,by rw[aw];simp[Qae]at aw;omega⟩
 |succ k ih=>
  intro o U hb pa pc hO a4;have bi:=an.nc
  have ao:Qb S 82 #[h.v,.slice pa o.length pc] (λ v U'=>∃cells,Acc 26 1 v cells U'.M U.M/\Xn U' cells ((b.ords (k+1) o).map Qae)/\(∀x ox,U.I x=some ox->U'.I x=some ox)/\U'.tok=U.tok) U:=by
   refine Qb.of (args:=[_,_]) Qdc Qf S1 ?_
   repeat refine⟨rfl,?_⟩
   conv=>whnf
   intro B W R hB;have hB:Zi W B #[.slice h.ra h.rl h.rc,.slice h.ca h.cl h.cc]:=hB;have a8:Zi W.frz B #[.slice h.ra h.rl h.rc,.slice h.ca h.cl h.cc]:=hB;have bc:=hb.lg R.lg.frz2;refine⟨_,hB.sees3 (o:=1) rfl,?_⟩
   repeat refine⟨rfl,?_⟩
   conv=>whnf
   apply Qe<;>intro hc
   .exfalso;simp at hc;omega
   refine⟨Nat×Value,λ y=>[(1,.slice pa o.length pc),(2,.pointer (some ⟨B,0,none⟩)),(5,y.2),(6,.int .i64 y.1)],λ y U'=>W.frz.lg U'/\y.1<=h.cl/\∃cells,Acc 26 1 y.2 cells U'.M U.M/\Xn U' cells ((b.ordsTo k o y.1).map Qae),λ y=>h.cl-y.1,(0,.slice none 0 0),T1,⟨Qp,O1,[],by rw[R.own];exact .nil,rfl,by simp[Bk.ordsTo]⟩,?_⟩;rintro⟨i,v⟩f D⟨O,hi,cells,r,C⟩;simp only at r C hi;obtain⟨oa,ol,oc,rfl,bs,-⟩:=r.src;have av:Zu ((i:Int)+1):=I1
   have X:Zi D.frz B #[.slice h.ra h.rl h.rc,.slice h.ca h.cl h.cc]:=a8.lg O.frz2;have a0:Zi D B #[.slice h.ra h.rl h.rc,.slice h.ca h.cl h.cc]:=X.lg Qp;have ap:=bc.lg O.frz2;have ak:Z5 D.frz pa o.length (Qae o):=(hO.lg R.lg.frz2).lg O.frz2;have K:=b.ordsTo_succ k o i;refine⟨_,a0.sees3 (o:=1) rfl,?_⟩
   repeat refine⟨rfl,?_⟩
   conv=>whnf
   apply Qe<;>intro hc
   rotate_left
   .have hge:i=b.cs.length:=by simp at hc;omega
    rw[hge,b.ordsTo_end]at C
    repeat refine⟨rfl,?_⟩
    conv=>whnf
    exact⟨cells,r,C,λ x ox hx=>O.imm x ox (R.imm x ox hx),O.tok.trans R.tok⟩
   have a5:i<h.cl:=by simpa using hc
   obtain⟨ad,c,ga,gl,gc,aa,al,ac,hx,bg,ar,bj,hg,bq,ha,bb,bm⟩:=ap.case a5;have bk:=ha.1;have skip:b.can o i=false->((b.ordsTo k o (i+1)).map Qae)=(b.ordsTo k o i).map Qae:=λ e=>by rw[K,e];simp
   refine⟨Qzk.any,(Qga pa o.length pc (Qae o) (ak.lg Qp) O1 (i:Int)).go λ _=>?_⟩;rw[Q4x];cases g:o.contains i with
   |true=>
    have N:b.can o i=false:=by unfold Bk.can;rw[g];rfl
    refine⟨av,?_⟩
    conv=>whnf
    exact⟨rfl,(i+1,.slice oa ol oc),T1,⟨O,by show i+1<=h.cl;omega,cells,r,by show Xn _ _ ((b.ordsTo k o (i+1)).map Qae);rw[skip N];exact C⟩,L1⟩
   |false=>
   refine⟨_,a0.sees3 (o:=1) rfl,ad,i,⟨bg,rfl,a5⟩,_,(bj.lg Qp).cell (i:=3) rfl,Q4v.any,(Zc3 aa pa al ac o.length pc c.af (Qae o) (ha.lg Qp) (ak.lg Qp) bb O1).go λ _=>?_⟩;rw[Bk.aft_all an hx];cases ht:(Je b.A i).all λ k=>o.contains k with
   |false=>
    have N:b.can o i=false:=by unfold Bk.can;rw[g,ht];rfl
    refine⟨av,?_⟩
    conv=>whnf
    exact⟨rfl,(i+1,.slice oa ol oc),T1,⟨O,by show i+1<=h.cl;omega,cells,r,by show Xn _ _ ((b.ordsTo k o (i+1)).map Qae);rw[skip N];exact C⟩,L1⟩
   |true=>
   have N:b.can o i=true:=by unfold Bk.can;rw[g,ht];rfl
   rw[N,if_pos rfl]at K
   conv=>whnf
   intro bo am
   refine SQ (mu:=[]) (ops:=Pl Tryz.f82 8) (id:=8) am [2,4,6,7,8] [[0,1,3,5,2,4,6,7,8],[0,1,3,5,2,6,4,7,8],[0,1,3,5,6,2,4,7,8]] [9,10] Qvv Zm0 Qf K1 K1 K1 K1 K1
    (λ f' az U'=>az=[]/\∃a c w,XF f' [(1,.slice pa o.length pc),(2,.pointer (some ⟨B,0,none⟩)),(6,.int .i64 i),(38,.slice oa ol oc),(46,.slice a w.length c)]/\QS U'.frz a w/\(∀ad,a=some ad->ad.spot=none)/\Xn U' w ((b.ords k (o++[i])).map Qae)/\D.le U') ?_ ?_
   .intro l hl;simp only[Qvv,mem_cons,not_mem_nil,or_false]at hl;rcases hl with rfl|rfl|rfl
    .refine⟨_,⟨rfl,X.rd⟩,?_⟩;refine⟨λ v U'=>Qcf D [] v U',λ v G Y g d=>g.le d,λ v U' g=>g.2.1,λ U' j=>?_,λ v t=>?_⟩
     .conv=>whnf
      intro p hp;exact⟨_,.refl _,_,.refl _,.new j⟩
     obtain⟨_,⟨Z,ah,ae,rfl⟩,-,-⟩:=t;refine⟨λ v U'=>Qcf D (Qae o) v U',λ v G Y g d=>g.le d,λ v U' g=>g.2.1,λ U' j=>?_,λ v t=>?_⟩
     .conv=>whnf
      refine Ws (v:=.slice Z ah ae) (cs:=([]:List Int).map λ n=>.int .i64 n) (new:=(Qae o).map λ n=>.int .i64 n) (M₀:=D.M) Hf rfl rfl j.2.2 ((ak.lg j.2.1.frz2).lg Qp).src' (by simp[Qae]) (by simp[Value.single]) (by simp[Qae];omega) λ v' M' q _=>?_;obtain⟨ta,tl,tc,rfl,-⟩:=Acc.src (U:={ U' with M:=M' }) q;exact⟨_,.refl _,⟨⟨_,_,_,rfl⟩,⟨j.2.1.imm,⟨_,(append_nil _).symm⟩,j.2.1.tok⟩,by simpa using q⟩⟩
     obtain⟨_,⟨ab,ai,ag,rfl⟩,-,-⟩:=t;refine⟨λ v U'=>(∃p,v=.slice (some ⟨p,0,none⟩) 1 1/\Qcf D (Qae o) (.slice ab ai ag) U'/\Zi U' p #[.int .i64 i]),λ v G Y g d=>let ⟨p,e,z,F⟩:=g;⟨p,e,z.le d,F.le d⟩,λ v U' g=>let ⟨_,_,z,_⟩:=g;z.2.1,λ U' j=>?_,λ v t=>?_⟩
     .conv=>whnf
      intro p hp;exact Zk hp λ G k1 Q=>⟨G,.refl _,p,rfl,j.le k1,Q⟩
     obtain⟨_,E,rfl,-,-⟩:=t;refine⟨λ v U'=>Qcf D (Qae (o++[i])) v U'/\Zi U' E #[.int .i64 i],λ v G Y g d=>⟨g.1.le d,g.2.le d⟩,λ v U' g=>g.1.2.1,λ U' j=>?_,λ v t=>?_⟩
     .obtain⟨p',e,j,hb44⟩:=j;obtain rfl:E=p':=by simpa using e
      conv=>whnf
      refine Ws (v:=.slice ab ai ag) (cs:=(Qae o:List Int).map λ n=>.int .i64 n) (new:=[.int .i64 (i:Int)]) (M₀:=D.M) Hf rfl rfl j.2.2 (.inr ⟨_,rfl,hb44.rd⟩) (rfl) (by simp[Value.single]) (by simp[Qae];omega) λ v' M' q _=>?_;obtain⟨ta,tl,tc,rfl,-⟩:=Acc.src (U:={ U' with M:=M' }) q;exact⟨_,.refl _,⟨⟨⟨_,_,_,rfl⟩,⟨j.2.1.imm,⟨_,(append_nil _).symm⟩,j.2.1.tok⟩,by simpa[Qae,map_append]using q⟩,hb44⟩⟩
     obtain⟨_,⟨⟨ax,a6,ay,rfl⟩,-,-⟩,-⟩:=t;refine⟨λ v U'=>Zcx U' v ((b.ords k (o++[i])).map Qae)/\D.le U',λ v G Y⟨⟨a,c,cells,e,z,F,h3⟩,h4⟩d=>⟨⟨a,c,cells,e,z.lgs d.lg.frz2,F,h3.lg d.lg.frz2⟩,h4.trans d⟩,λ v U' g=>Qp.trans g.2.lg,λ U' j=>?_,λ v t=>?_⟩
     .obtain⟨j,-⟩:=j;refine⟨Qdc.any,(Qcf.give (xs:=λ v=>#[h.v,v]) j λ U4 ga L e d s=>?_).mono λ v U' t _=>⟨U',.refl _,t⟩⟩;rw[e];have:=ih (o++[i]) U4 (ap.lg d.lg.frz2) ga L (by rw[length_map]at s;exact s) (by rw[length_append,length_singleton];omega);rw[show(Qae (o++[i])).length=(o++[i]).length by simp[Qae]];exact this.mono λ v U'⟨z,F⟩=>⟨z,d.trans F⟩
     obtain⟨_,⟨H,J,cells,rfl,-⟩,-⟩:=t
     conv=>whnf
     rintro U'⟨⟨a,c,w,e,z,F,h3⟩,h4⟩;obtain⟨rfl,e2,rfl⟩:H=a/\cells.length=w.length/\J=c:=by simpa using e
     refine⟨rfl,H,J,w,⟨rfl,rfl,rfl,rfl,?_,trivial⟩,z,F,h3,h4⟩;rw[<- e2];rfl
    .refine⟨_,⟨rfl,X.rd⟩,?_⟩;refine⟨λ v U'=>Qcf D [] v U',λ v G Y g d=>g.le d,λ v U' g=>g.2.1,λ U' j=>?_,λ v t=>?_⟩
     .conv=>whnf
      intro p hp;exact⟨_,.refl _,_,.refl _,.new j⟩
     obtain⟨_,⟨Z,ah,ae,rfl⟩,-,-⟩:=t;refine⟨λ v U'=>(∃p,v=.slice (some ⟨p,0,none⟩) 1 1/\Qcf D [] (.slice Z ah ae) U'/\Zi U' p #[.int .i64 i]),λ v G Y g d=>let ⟨p,e,z,F⟩:=g;⟨p,e,z.le d,F.le d⟩,λ v U' g=>let ⟨_,_,z,_⟩:=g;z.2.1,λ U' j=>?_,λ v t=>?_⟩
     .conv=>whnf
      intro p hp;exact Zk hp λ G k1 Q=>⟨G,.refl _,p,rfl,j.le k1,Q⟩
     obtain⟨_,E,rfl,-,-⟩:=t;refine⟨λ v U'=>Qcf D (Qae o) v U'/\Zi U' E #[.int .i64 i],λ v G Y g d=>⟨g.1.le d,g.2.le d⟩,λ v U' g=>g.1.2.1,λ U' j=>?_,λ v t=>?_⟩
     .obtain⟨p',e,j,hb44⟩:=j;obtain rfl:E=p':=by simpa using e
      conv=>whnf
      refine Ws (v:=.slice Z ah ae) (cs:=([]:List Int).map λ n=>.int .i64 n) (new:=(Qae o).map λ n=>.int .i64 n) (M₀:=D.M) Hf rfl rfl j.2.2 ((ak.lg j.2.1.frz2).lg Qp).src' (by simp[Qae]) (by simp[Value.single]) (by simp[Qae];omega) λ v' M' q _=>?_;obtain⟨ta,tl,tc,rfl,-⟩:=Acc.src (U:={ U' with M:=M' }) q;exact⟨_,.refl _,⟨⟨⟨_,_,_,rfl⟩,⟨j.2.1.imm,⟨_,(append_nil _).symm⟩,j.2.1.tok⟩,by simpa using q⟩,hb44⟩⟩
     obtain⟨_,⟨⟨ab,ai,ag,rfl⟩,-,-⟩,-⟩:=t;refine⟨λ v U'=>Qcf D (Qae (o++[i])) v U'/\Zi U' E #[.int .i64 i],λ v G Y g d=>⟨g.1.le d,g.2.le d⟩,λ v U' g=>g.1.2.1,λ U' j=>?_,λ v t=>?_⟩
     .obtain⟨j,hb44⟩:=j
      conv=>whnf
      refine Ws (v:=.slice ab ai ag) (cs:=(Qae o:List Int).map λ n=>.int .i64 n) (new:=[.int .i64 (i:Int)]) (M₀:=D.M) Hf rfl rfl j.2.2 (.inr ⟨_,rfl,hb44.rd⟩) (rfl) (by simp[Value.single]) (by simp[Qae];omega) λ v' M' q _=>?_;obtain⟨ta,tl,tc,rfl,-⟩:=Acc.src (U:={ U' with M:=M' }) q;exact⟨_,.refl _,⟨⟨⟨_,_,_,rfl⟩,⟨j.2.1.imm,⟨_,(append_nil _).symm⟩,j.2.1.tok⟩,by simpa[Qae,map_append]using q⟩,hb44⟩⟩
     obtain⟨_,⟨⟨ax,a6,ay,rfl⟩,-,-⟩,-⟩:=t;refine⟨λ v U'=>Zcx U' v ((b.ords k (o++[i])).map Qae)/\D.le U',λ v G Y⟨⟨a,c,cells,e,z,F,h3⟩,h4⟩d=>⟨⟨a,c,cells,e,z.lgs d.lg.frz2,F,h3.lg d.lg.frz2⟩,h4.trans d⟩,λ v U' g=>Qp.trans g.2.lg,λ U' j=>?_,λ v t=>?_⟩
     .obtain⟨j,-⟩:=j;refine⟨Qdc.any,(Qcf.give (xs:=λ v=>#[h.v,v]) j λ U4 ga L e d s=>?_).mono λ v U' t _=>⟨U',.refl _,t⟩⟩;rw[e];have:=ih (o++[i]) U4 (ap.lg d.lg.frz2) ga L (by rw[length_map]at s;exact s) (by rw[length_append,length_singleton];omega);rw[show(Qae (o++[i])).length=(o++[i]).length by simp[Qae]];exact this.mono λ v U'⟨z,F⟩=>⟨z,d.trans F⟩
     obtain⟨_,⟨H,J,cells,rfl,-⟩,-⟩:=t
     conv=>whnf
     rintro U'⟨⟨a,c,w,e,z,F,h3⟩,h4⟩;obtain⟨rfl,e2,rfl⟩:H=a/\cells.length=w.length/\J=c:=by simpa using e
     refine⟨rfl,H,J,w,⟨rfl,rfl,rfl,rfl,?_,trivial⟩,z,F,h3,h4⟩;rw[<- e2];rfl
    .refine⟨_,⟨rfl,X.rd⟩,?_⟩;refine⟨λ v U'=>(∃p,v=.slice (some ⟨p,0,none⟩) 1 1/\D.le U'/\Zi U' p #[.int .i64 i]),λ v G Y g d=>let ⟨p,e,z,F⟩:=g;⟨p,e,z.trans d,F.le d⟩,λ v U' g=>let ⟨_,_,z,_⟩:=g;Qp.trans z.lg,λ U' j=>?_,λ v t=>?_⟩
     .conv=>whnf
      intro p hp;exact Zk hp λ G k1 Q=>⟨G,.refl _,p,rfl,j.trans k1,Q⟩
     obtain⟨_,E,rfl,-,-⟩:=t;refine⟨λ v U'=>Qcf D [] v U'/\Zi U' E #[.int .i64 i],λ v G Y g d=>⟨g.1.le d,g.2.le d⟩,λ v U' g=>g.1.2.1,λ U' j=>?_,λ v t=>?_⟩
     .obtain⟨p',e,j,hb44⟩:=j;obtain rfl:E=p':=by simpa using e
      conv=>whnf
      intro p hp;exact⟨_,.refl _,_,.refl _,⟨.new j,hb44.lg (Z4 p _)⟩⟩
     obtain⟨_,⟨⟨Z,ah,ae,rfl⟩,-,-⟩,-⟩:=t;refine⟨λ v U'=>Qcf D (Qae o) v U'/\Zi U' E #[.int .i64 i],λ v G Y g d=>⟨g.1.le d,g.2.le d⟩,λ v U' g=>g.1.2.1,λ U' j=>?_,λ v t=>?_⟩
     .obtain⟨j,hb44⟩:=j
      conv=>whnf
      refine Ws (v:=.slice Z ah ae) (cs:=([]:List Int).map λ n=>.int .i64 n) (new:=(Qae o).map λ n=>.int .i64 n) (M₀:=D.M) Hf rfl rfl j.2.2 ((ak.lg j.2.1.frz2).lg Qp).src' (by simp[Qae]) (by simp[Value.single]) (by simp[Qae];omega) λ v' M' q _=>?_;obtain⟨ta,tl,tc,rfl,-⟩:=Acc.src (U:={ U' with M:=M' }) q;exact⟨_,.refl _,⟨⟨⟨_,_,_,rfl⟩,⟨j.2.1.imm,⟨_,(append_nil _).symm⟩,j.2.1.tok⟩,by simpa using q⟩,hb44⟩⟩
     obtain⟨_,⟨⟨ab,ai,ag,rfl⟩,-,-⟩,-⟩:=t;refine⟨λ v U'=>Qcf D (Qae (o++[i])) v U'/\Zi U' E #[.int .i64 i],λ v G Y g d=>⟨g.1.le d,g.2.le d⟩,λ v U' g=>g.1.2.1,λ U' j=>?_,λ v t=>?_⟩
     .obtain⟨j,hb44⟩:=j
      conv=>whnf
      refine Ws (v:=.slice ab ai ag) (cs:=(Qae o:List Int).map λ n=>.int .i64 n) (new:=[.int .i64 (i:Int)]) (M₀:=D.M) Hf rfl rfl j.2.2 (.inr ⟨_,rfl,hb44.rd⟩) (rfl) (by simp[Value.single]) (by simp[Qae];omega) λ v' M' q _=>?_;obtain⟨ta,tl,tc,rfl,-⟩:=Acc.src (U:={ U' with M:=M' }) q;exact⟨_,.refl _,⟨⟨⟨_,_,_,rfl⟩,⟨j.2.1.imm,⟨_,(append_nil _).symm⟩,j.2.1.tok⟩,by simpa[Qae,map_append]using q⟩,hb44⟩⟩
     obtain⟨_,⟨⟨ax,a6,ay,rfl⟩,-,-⟩,-⟩:=t;refine⟨λ v U'=>Zcx U' v ((b.ords k (o++[i])).map Qae)/\D.le U',λ v G Y⟨⟨a,c,cells,e,z,F,h3⟩,h4⟩d=>⟨⟨a,c,cells,e,z.lgs d.lg.frz2,F,h3.lg d.lg.frz2⟩,h4.trans d⟩,λ v U' g=>Qp.trans g.2.lg,λ U' j=>?_,λ v t=>?_⟩
     .obtain⟨j,-⟩:=j;refine⟨Qdc.any,(Qcf.give (xs:=λ v=>#[h.v,v]) j λ U4 ga L e d s=>?_).mono λ v U' t _=>⟨U',.refl _,t⟩⟩;rw[e];have:=ih (o++[i]) U4 (ap.lg d.lg.frz2) ga L (by rw[length_map]at s;exact s) (by rw[length_append,length_singleton];omega);rw[show(Qae (o++[i])).length=(o++[i]).length by simp[Qae]];exact this.mono λ v U'⟨z,F⟩=>⟨z,d.trans F⟩
     obtain⟨_,⟨H,J,cells,rfl,-⟩,-⟩:=t
     conv=>whnf
     rintro U'⟨⟨a,c,w,e,z,F,h3⟩,h4⟩;obtain⟨rfl,e2,rfl⟩:H=a/\cells.length=w.length/\J=c:=by simpa using e
     refine⟨rfl,H,J,w,⟨rfl,rfl,rfl,rfl,?_,trivial⟩,z,F,h3,h4⟩;rw[<- e2];rfl
   rintro f' az U4⟨rfl,H,J,w,a3,P,bn,V,d⟩;rw[<- a3.ovr];clear a3;have br:=Bk.ordsTo_len an (k:=k) O1 o (m:=i) O1;have bh:=Bk.ordsTo_len an (k:=k) O1 o (m:=i+1) O1;have be:=C.1;have bf:=V.1;rw[length_map]at be bf;rw[K,length_append]at bh
   conv=>whnf
   refine Ws (v:=.slice oa ol oc) (cs:=cells) (new:=w) (M₀:=U.M) jz rfl rfl (by rw[d.own];exact r) (P.lgs Qp) (by rw[Nat.mul_one]) V.single O1 λ v' M' q _=>?_;obtain⟨ta,tl,tc,rfl,-⟩:=Acc.src (U:={ U4 with M:=M' }) q
   conv=>whnf
   intro a' aq;refine⟨by rw[aq.size,am.size],_,aq.get,?_⟩;rw[aq.ds];clear aq am;refine⟨av,?_⟩
   conv=>whnf
   have au:=O.trans d.lg;exact⟨rfl,(i+1,.slice ta tl tc),T1,⟨⟨au.imm,⟨_,(append_nil _).symm⟩,au.tok⟩,by show i+1<=h.cl;omega,cells++w,q,by show Xn _ _ ((b.ordsTo k o (i+1)).map Qae);rw[K,map_append];exact((C.lg d.lg.frz2).app V).lg ⟨λ _ _ h=>h,⟨[],rfl⟩,rfl⟩⟩,L1⟩
  refine ao.sep λ v U' hs⟨cells,r,C,hI,ht⟩=>?_;obtain⟨W,k1,Q,a,len,cap,rfl,hl,P,ar,-⟩:=Acc.freeze (U:={ U' with M:=U.M }) hs r (λ _ _ h=>h) rfl;have hz:U'.frz.lg W.frz:=⟨Q.imm,⟨[],rfl⟩,Q.tok⟩;exact⟨W,k1,⟨a,cap,cells,by rw[hl,Nat.mul_one],P,ar,C.lg hz⟩,⟨λ x u hx=>Q.imm x u (hI x u hx),Q.own,Q.tok.trans ht⟩⟩
end Go.Proofs
namespace Go.TM
variable{T:Type}{U U':Qa T}
def Qdg(l:List Nat):List Value:=l.map λ n=>.int .i64 (n:Nat)
def Zm6(l:List Nat):(Qdg l).length=l.length:=by simp[Qdg]
def Qvz{l:List Nat}{i:Nat}(h:i<l.length):(Qdg l)[i]?=some (.int .i64 (l.getD i 0:Nat)):=by
 simp[Qdg,getD_eq_getElem?_getD,h]
def Znq(l:List Nat)(i n:Nat):(Qdg l).toArray.setIfInBounds i (.int .i64 (n:Nat))=(Qdg (l.set i n)).toArray:=by
 simp[Qdg,map_set]
def Qoa(n:Nat):(replicate n (Value.int .i64 0)).toArray=(Qdg (replicate n 0)).toArray:=by simp[Qdg]
end Go.TM
namespace Go.Proofs
open Go.TM
def Qvo:List (List (Nat×St)):=[[(0,.xo 18 0 1),(0,.xl 19 18),(0,.xn 20 19),(0,.xo 22 1 1),(0,.xl 23 22),(0,.xn 24 23),(2,.d 21 (.raw { dst:=none,op:=(.makeSlice 26 (.t 20) (.t 20)),type:=26,pos := "", after:=#[],guard:=none })),(0,.m 5 21),(2,.d 25 (.raw { dst:=none,op:=(.makeSlice 26 (.t 24) (.t 24)),type:=26,pos := "", after:=#[],guard:=none }))],
 [(0,.xo 18 0 1),(0,.xl 19 18),(0,.xn 20 19),(0,.xo 22 1 1),(0,.xl 23 22),(0,.xn 24 23),(2,.d 25 (.raw { dst:=none,op:=(.makeSlice 26 (.t 24) (.t 24)),type:=26,pos := "", after:=#[],guard:=none })),(2,.d 21 (.raw { dst:=none,op:=(.makeSlice 26 (.t 20) (.t 20)),type:=26,pos := "", after:=#[],guard:=none })),(0,.m 5 21)]]
def Zl2:List St:=[.m 6 25]
variable{T:Type}{S:TM.Sys prog T}{U:Qa T}
attribute [local irreducible] Qb Zl Wt
def Qjj(a n:Nat):Qb S 131 #[.int .i64 a,.int .i64 n] (λ v U'=>v=.int .i64 (H9 a n)/\U'=U) U:=by
 refine Qb.of (args:=[_,_]) Qpj Qf S1 ?_
 repeat refine⟨rfl,?_⟩
 conv=>whnf
 apply Qe<;>intro b
 .have e:a=n:=by simp at b;omega
  repeat refine⟨rfl,?_⟩
  conv=>whnf
  exact⟨by unfold H9;rw[if_pos e],rfl⟩
 have e:a≠n:=by simp at b;omega
 repeat refine⟨rfl,?_⟩
 conv=>whnf
 apply Qe<;>intro b
 .have e0:a=0:=by simp at b;omega
  repeat refine⟨rfl,?_⟩
  conv=>whnf
  exact⟨by unfold H9;rw[if_neg e,if_pos e0],rfl⟩
 .have e0:a≠0:=by simp at b;omega
  repeat refine⟨rfl,?_⟩
  conv=>whnf
  exact⟨by unfold H9;rw[if_neg e,if_neg e0],rfl⟩
def Zph:∃a,prog.info? 3=some a/\a.zero=some (.int .i64 0)/\a.size=1/\a.bytes<=64:=by
 have b:(prog.info? 3).map (·.zero)=some (some (.int .i64 0)):=K1
 have c:(prog.info? 3).map (·.size)=some 1:=K1
 have d:(prog.info? 3).map (λ i=>decide (i.bytes<=64))=some true:=K1
 cases h:prog.info? 3 with
 |none=>rw[h]at b;cases b
 |some a=>
  rw[h]at b c d;exact⟨a,rfl,Option.some.inj b,Option.some.inj c,by simpa using d⟩
set_option maxHeartbeats 4000000 in
def Q0k(h:BH)(b:Bk)(hb:Zq U.frz h b)(aq:b.Ok):Qb S 78 #[h.v] (λ v U'=>(∃v1 v2,v=.tuple #[v1,v2]/\Jd U'.frz v1 b.fatesR/\Jd U'.frz v2 b.fatesC)/\U.le U') U:=by
 have ao:=hb.cs.1;have bj:=hb.rs.1;have ce:=aq.nr;have bv:=aq.nc;obtain⟨i3,ar,au,av,aw⟩:=Zph
 let K:List Nat->Nat->Bool:=λ o r=>(b.ends o).1.getD r false
 let D:List Nat->Nat->Bool:=λ o r=>(b.ends o).2.getD r false
 have bo:Qb S 78 #[h.v] (λ v U'=>∃v1 v2 O A2 Y,v=.tuple #[v1,v2]/\Jw 51 1 v1 (b.fatesR.map λ n=>.int .i64 n) O/\Jw 51 1 v2 (b.fatesC.map λ n=>.int .i64 n) A2/\U'.M=A2++(O++(Y++U.M))/\(∀x o,U.I x=some o->U'.I x=some o)/\U'.tok=U.tok) U:=by
  refine Qb.of (args:=[_]) Zg4 Qf S1 ?_
  repeat refine⟨rfl,?_⟩
  conv=>whnf
  intro B U1 an hB;have hB:Zi U1 B #[.slice h.ra h.rl h.rc,.slice h.ca h.cl h.cc]:=hB;have bd:=hb.lg an.lg.frz2;refine⟨_,⟨rfl,hB.rd⟩,?_⟩;refine⟨Qdc.any,(Qek h b aq ao h.cl [] U1 bd none 0 ⟨rfl,λ i x g=>by simp[Qae]at g⟩ S1).mono ?_⟩;rintro _ J⟨⟨la,lc,cells,rfl,bl,bk,ah⟩,af⟩-;have bc:b.ords h.cl []=b.all:=by unfold Bk.all;rw[ao]
  rw[bc]at ah;have hn:cells.length=b.all.length:=by rw[ah.1];simp
  have hL:J3 J.frz la b.all.length (b.all.map Qae):=by have:=ah.lists bl bk;rwa [length_map]at this
  have br:=b.all_le bv;generalize cells.length=n at hn ⊢;have bp:Zi J B #[.slice h.ra h.rl h.rc,.slice h.ca h.cl h.cc]:=hB.lg af.lg;have ac:Zi J.frz B #[.slice h.ra h.rl h.rc,.slice h.ca h.cl h.cc]:=bp;have bs:=bd.lg af.lg.frz2
  let MM:Nat->Nat->List Nat->List Nat->List Qx:=λ xb m s w=>.obj m (.cells (Qdg w).toArray 3 (0,0))::.obj xb (.cells (Qdg s).toArray 3 (0,0))::J.M
  conv=>whnf
  intro b8 ai
  refine SQ (mu:=[]) (ops:=Pl Tryz.f78 2) (id:=2) ai [3,7] [[0,1,2,4,5,6,3,8,7],[0,1,2,4,5,6,7,3,8]] [9] Qvo Zl2 Qf K1 K1 K1 K1 K1
   (λ f' a9 U'=>a9=[]/\∃xb m,XF f' [(1,.pointer (some ⟨B,0,none⟩)),(4,.slice la n lc),(5,.slice (some ⟨xb,0,none⟩) h.rl h.rl),(25,.slice (some ⟨m,0,none⟩) h.cl h.cl)]/\J.frz.lg U'/\U'.M=MM xb m (replicate h.rl 0) (replicate h.cl 0)) ?_ ?_
  .intro l N;simp only[Qvo,mem_cons,not_mem_nil,or_false]at N;rcases N with rfl|rfl
   .refine⟨_,ac.sees3 (o:=0) rfl,_,ac.sees3 (o:=1) rfl,λ v U'=>∃p,v=.slice (some ⟨p,0,none⟩) h.rl h.rl/\J.frz.lg U'/\U'.M=.obj p (.cells (Qdg (replicate h.rl 0)).toArray 3 (0,0))::J.M,λ v x1 x2⟨rb,e,N,V⟩d=>⟨rb,e,N.trans d.lg,d.own.trans V⟩,λ v U'⟨rb,e,N,V⟩=>N,λ U' hC=>?_,λ v hv=>?_⟩
    .conv=>whnf
     refine EK (n:=h.rl) Pf ar au rfl av aw rfl rfl O1 λ rb bw=>?_;refine⟨_,.refl _,rb,rfl,⟨λ x o g=>hC.imm x o g,⟨_,(append_nil _).symm⟩,hC.tok⟩,?_⟩;show _::U'.M=_;rw[hC.own,Qoa]
    obtain⟨_,xb,rfl,-⟩:=hv;refine⟨λ v U'=>∃p,v=.slice (some ⟨p,0,none⟩) h.cl h.cl/\J.frz.lg U'/\U'.M=MM xb p (replicate h.rl 0) (replicate h.cl 0),λ v x1 x2⟨rb,e,N,V⟩d=>⟨rb,e,N.trans d.lg,d.own.trans V⟩,λ v U'⟨rb,e,N,V⟩=>N,λ U' hC=>?_,λ v hv=>?_⟩
    .obtain⟨rb',e,G,q⟩:=hC;obtain rfl:xb=rb':=by simpa using e
     conv=>whnf
     refine EK (n:=h.cl) Pf ar au rfl av aw rfl rfl O1 λ wb b1=>?_;refine⟨_,W7 (M':=MM xb wb (replicate h.rl 0) (replicate h.cl 0)) ?_,wb,rfl,⟨λ x o g=>G.imm x o g,⟨_,(append_nil _).symm⟩,G.tok⟩,rfl⟩;show(_::U'.M).Perm _;rw[q,Qoa]
    obtain⟨_,m,rfl,-⟩:=hv
    conv=>whnf
    rintro U'⟨a8,e,G,q⟩;obtain rfl:m=a8:=by simpa using e
    exact⟨rfl,xb,m,T1,G,q⟩
   .refine⟨_,ac.sees3 (o:=0) rfl,_,ac.sees3 (o:=1) rfl,λ v U'=>∃p,v=.slice (some ⟨p,0,none⟩) h.cl h.cl/\J.frz.lg U'/\U'.M=.obj p (.cells (Qdg (replicate h.cl 0)).toArray 3 (0,0))::J.M,λ v x1 x2⟨rb,e,N,V⟩d=>⟨rb,e,N.trans d.lg,d.own.trans V⟩,λ v U'⟨rb,e,N,V⟩=>N,λ U' hC=>?_,λ v hv=>?_⟩
    .conv=>whnf
     refine EK (n:=h.cl) Pf ar au rfl av aw rfl rfl O1 λ rb bw=>?_;refine⟨_,.refl _,rb,rfl,⟨λ x o g=>hC.imm x o g,⟨_,(append_nil _).symm⟩,hC.tok⟩,?_⟩;show _::U'.M=_;rw[hC.own,Qoa]
    obtain⟨_,m,rfl,-⟩:=hv;refine⟨λ v U'=>∃p,v=.slice (some ⟨p,0,none⟩) h.rl h.rl/\J.frz.lg U'/\U'.M=MM p m (replicate h.rl 0) (replicate h.cl 0),λ v x1 x2⟨rb,e,N,V⟩d=>⟨rb,e,N.trans d.lg,d.own.trans V⟩,λ v U'⟨rb,e,N,V⟩=>N,λ U' hC=>?_,λ v hv=>?_⟩
    .obtain⟨rb',e,G,q⟩:=hC;obtain rfl:m=rb':=by simpa using e
     conv=>whnf
     refine EK (n:=h.rl) Pf ar au rfl av aw rfl rfl O1 λ wb b1=>?_;refine⟨_,W7 (M':=MM wb m (replicate h.rl 0) (replicate h.cl 0)) ?_,wb,rfl,⟨λ x o g=>G.imm x o g,⟨_,(append_nil _).symm⟩,G.tok⟩,rfl⟩;show(_::U'.M).Perm _;rw[q,Qoa];exact Perm.swap _ _ _
    obtain⟨_,xb,rfl,-⟩:=hv
    conv=>whnf
    rintro U'⟨a8,e,G,q⟩;obtain rfl:xb=a8:=by simpa using e
    exact⟨rfl,xb,m,T1,G,q⟩
  rintro f' a9 U3⟨rfl,xb,m,be,bi,ae⟩;rw[<- be.ovr];clear be
  conv=>whnf
  intro a' ap;refine⟨by rw[ap.size,ai.size],_,ap.get,?_⟩;rw[ap.ds];clear ap ai;refine⟨Nat,λ k=>[(1,.pointer (some ⟨B,0,none⟩)),(4,.slice la n lc),(5,.slice (some ⟨xb,0,none⟩) h.rl h.rl),(6,.slice (some ⟨m,0,none⟩) h.cl h.cl),(7,.int .i64 k)],λ k U'=>J.frz.lg U'/\k<=n/\U'.M=MM xb m (Qaq b.all K h.rl k 0) (Qaq b.all D h.cl k 0),λ k=>n-k,0,T1,⟨bi,O1,by rw[Zbz,Zbz];exact ae⟩,?_⟩;rintro k f U3⟨aa,cb,ae⟩;have bf:Zu ((k:Int)+1):=I1
  repeat refine⟨rfl,?_⟩
  conv=>whnf
  apply Qe<;>intro hc
  .have hltk:k<n:=by simpa using hc
   obtain⟨o,ab⟩:∃o,b.all[k]?=some o:=⟨_,getElem?_eq_getElem O1⟩;have ho:=Bk.mem_all_iff.1 (mem_of_getElem? ab);obtain⟨ad,l,ga,gl,gc,bm,bt,b7,bx,ax,b9,cd⟩:=hL.at (show k<b.all.length by omega);obtain rfl:Qae o=l:=by rw[getElem?_map,ab]at bm;exact Option.some.inj bm
   have a4:=ax.1;obtain rfl:o.length=gl:=by rw[<- a4];simp[Qae]
   have cf:=ho.len;refine⟨_,⟨rfl,(ac.lg aa).rd⟩,?_⟩;refine⟨ad,k,⟨bt,rfl,hltk⟩,_,bx.lg aa,λ v U'=>∃sa sc wa wc,v=.tuple #[.slice sa h.rl sc,.slice wa h.cl wc]/\(∀(i:Nat)x,(b.ends o).1[i]?=some x->∃ad,sa=some ad/\ad.spot=none/\U'.frz.sees (ad.add (i*1)) (.bool x))/\(∀(i:Nat)x,(b.ends o).2[i]?=some x->∃ad,wa=some ad/\ad.spot=none/\U'.frz.sees (ad.add (i*1)) (.bool x)),λ v x1 x2⟨sa,sc,wa,wc,e,q1,q2⟩d=>⟨sa,sc,wa,wc,e,(λ i x g=>let ⟨ad,a1,a2,a3⟩:=q1 i x g;⟨ad,a1,a2,a3.lg d.lg.frz2⟩),λ i x g=>let ⟨ad,a1,a2,a3⟩:=q2 i x g;⟨ad,a1,a2,a3.lg d.lg.frz2⟩⟩,λ U' d _=>?_,λ v hv=>?_⟩
   .refine⟨Q0h.any,(Qf7 h b (bs.lg (aa.frz2.trans d.lg.frz2)) aq ga gc o (ax.lg (aa.frz2.trans d.lg.frz2)) ho.low O1).mono ?_⟩;rintro _ U'⟨⟨_,_,rfl,⟨sa,sc,rfl,q1⟩,⟨wa,wc,rfl,q2⟩⟩,bh⟩-;rw[(b.end_len o).1,(b.end_len o).2,bj,ao];exact⟨_,.refl _,⟨sa,sc,wa,wc,rfl,q1,q2⟩,bh⟩
   obtain⟨_,-,-,sa,sc,wa,wc,rfl,-⟩:=hv
   conv=>whnf
   intro U4 bb hC;obtain⟨-,b2,b3,b5,b6,e,hS,hW⟩:=hC;obtain⟨⟨rfl,rfl⟩,rfl,rfl⟩:(sa=b2/\sc=b3)/\wa=b5/\wc=b6:=by simpa using e
   have bu:=aa.trans bb.lg;have bq:=bb.own.trans ae;refine⟨Nat,λ i=>[(1,.pointer (some ⟨B,0,none⟩)),(4,.slice la n lc),(5,.slice (some ⟨xb,0,none⟩) h.rl h.rl),(6,.slice (some ⟨m,0,none⟩) h.cl h.cl),(7,.int .i64 k),(8,.slice sa h.rl sc),(9,.slice wa h.cl wc),(10,.int .i64 i)],λ i U'=>J.frz.lg U'/\i<=h.rl/\U'.M=MM xb m (Qaq b.all K h.rl k i) (Qaq b.all D h.cl k 0)/\U4.frz.lg U',λ i=>h.rl-i,0,T1,⟨bu,O1,bq,Qp⟩,?_⟩;rintro i f U5⟨H,hi,t,C⟩;have T:Zu ((i:Int)+1):=I1
   repeat refine⟨rfl,?_⟩
   conv=>whnf
   apply Qe<;>intro hc
   .have hlt:i<h.rl:=by simpa using hc
    obtain⟨x,g⟩:∃x,(b.ends o).1[i]?=some x:=⟨_,getElem?_eq_getElem (by rw[(b.end_len o).1];omega)⟩;obtain⟨a0,a6,-,a7⟩:=hS i x g;have aj:(b.ends o).1.getD i false=x:=by simp[getD_eq_getElem?_getD,g]
    refine⟨a0,i,⟨a6,rfl,hlt⟩,_,a7.lg C,?_⟩;cases x with
    |false=>
     have hk:=Q4z (L:=b.all) (F:=K) (n:=h.rl) (k:=k) (i:=i) ab aj;refine⟨T,?_⟩
     conv=>whnf
     exact⟨rfl,i+1,T1,⟨H,O1,by rw[t,hk],C⟩,L1⟩
    |true=>
     have hk:=Zod (L:=b.all) (F:=K) (n:=h.rl) (k:=k) (i:=i) ab hlt aj;have R:(Qaq b.all K h.rl k i).length=h.rl:=Qbj;have d:=Zok (L:=b.all) (F:=K) (n:=h.rl) (k:=k) (i:=i) hlt;have X:U5.sees ((Addr.mk xb 0 none).add (i*1)) (.int .i64 ((Qaq b.all K h.rl k i).getD i 0:Nat)):=by rw[Nat.mul_one];exact Za [.obj m (.cells (Qdg (Qaq b.all D h.cl k 0)).toArray 3 (0,0))] t _ _ (Qvz (by rw[R];exact hlt))
     refine⟨_,i,⟨rfl,rfl,hlt⟩,_,X,I1,?_⟩;rw[show(((Qaq b.all K h.rl k i).getD i 0:Nat):Int)+1=(((Qaq b.all K h.rl k i).getD i 0+1:Nat):Int) by omega];refine⟨_,i,⟨rfl,rfl,hlt⟩,rfl,?_⟩;rw[Nat.mul_one];refine WS (i:=i) (b:=xb) (v:=.int .i64 (((Qaq b.all K h.rl k i).getD i 0+1:Nat):Int)) (c:=(Qdg (Qaq b.all K h.rl k i)).toArray) [.obj m (.cells (Qdg (Qaq b.all D h.cl k 0)).toArray 3 (0,0))] t (by rw[size_toArray,Zm6,R];exact hlt) rfl λ x1 k1 k2 k3=>?_;rw[Znq,hk]at k3;refine⟨T,?_⟩
     conv=>whnf
     exact⟨rfl,i+1,T1,⟨⟨λ x o g=>by rw[k1];exact H.imm x o g,⟨_,(append_nil _).symm⟩,k2.trans H.tok⟩,O1,k3,⟨λ x o g=>by rw[k1];exact C.imm x o g,⟨_,(append_nil _).symm⟩,k2.trans C.tok⟩⟩,L1⟩
   have E:i=h.rl:=by simp at hc;omega
   subst E;rw[Q41]at t;refine⟨Nat,λ i=>[(1,.pointer (some ⟨B,0,none⟩)),(4,.slice la n lc),(5,.slice (some ⟨xb,0,none⟩) h.rl h.rl),(6,.slice (some ⟨m,0,none⟩) h.cl h.cl),(7,.int .i64 k),(9,.slice wa h.cl wc),(11,.int .i64 i)],λ i U'=>J.frz.lg U'/\i<=h.cl/\U'.M=MM xb m (Qaq b.all K h.rl (k+1) 0) (Qaq b.all D h.cl k i)/\U4.frz.lg U',λ i=>h.cl-i,0,T1,⟨H,O1,by rw[t],C⟩,?_⟩;rintro i f U6⟨H,hi,t,C⟩;have T:Zu ((i:Int)+1):=I1
   repeat refine⟨rfl,?_⟩
   conv=>whnf
   apply Qe<;>intro hc
   .have hlt:i<h.cl:=by simpa using hc
    obtain⟨x,g⟩:∃x,(b.ends o).2[i]?=some x:=⟨_,getElem?_eq_getElem (by rw[(b.end_len o).2];omega)⟩;obtain⟨a0,a6,-,a7⟩:=hW i x g;have aj:(b.ends o).2.getD i false=x:=by simp[getD_eq_getElem?_getD,g]
    refine⟨a0,i,⟨a6,rfl,hlt⟩,_,a7.lg C,?_⟩;cases x with
    |false=>
     have hk:=Q4z (L:=b.all) (F:=D) (n:=h.cl) (k:=k) (i:=i) ab aj;refine⟨T,?_⟩
     conv=>whnf
     exact⟨rfl,i+1,T1,⟨H,O1,by rw[t,hk],C⟩,L1⟩
    |true=>
     have hk:=Zod (L:=b.all) (F:=D) (n:=h.cl) (k:=k) (i:=i) ab hlt aj;have R:(Qaq b.all D h.cl k i).length=h.cl:=Qbj;have d:=Zok (L:=b.all) (F:=D) (n:=h.cl) (k:=k) (i:=i) hlt;have X:U6.sees ((Addr.mk m 0 none).add (i*1)) (.int .i64 ((Qaq b.all D h.cl k i).getD i 0:Nat)):=by rw[Nat.mul_one];exact Za [] t _ _ (Qvz (by rw[R];exact hlt))
     refine⟨_,i,⟨rfl,rfl,hlt⟩,_,X,I1,?_⟩;rw[show(((Qaq b.all D h.cl k i).getD i 0:Nat):Int)+1=(((Qaq b.all D h.cl k i).getD i 0+1:Nat):Int) by omega];refine⟨_,i,⟨rfl,rfl,hlt⟩,rfl,?_⟩;rw[Nat.mul_one];refine WS (i:=i) (b:=m) (v:=.int .i64 (((Qaq b.all D h.cl k i).getD i 0+1:Nat):Int)) (c:=(Qdg (Qaq b.all D h.cl k i)).toArray) [] t (by rw[size_toArray,Zm6,R];exact hlt) rfl λ x1 k1 k2 k3=>?_;rw[Znq,hk]at k3;refine⟨T,?_⟩
     conv=>whnf
     exact⟨rfl,i+1,T1,⟨⟨λ x o g=>by rw[k1];exact H.imm x o g,⟨_,(append_nil _).symm⟩,k2.trans H.tok⟩,O1,k3,⟨λ x o g=>by rw[k1];exact C.imm x o g,⟨_,(append_nil _).symm⟩,k2.trans C.tok⟩⟩,L1⟩
   have E:i=h.cl:=by simp at hc;omega
   subst E;rw[Q41]at t;refine⟨bf,?_⟩
   conv=>whnf
   exact⟨rfl,k+1,T1,⟨H,O1,t⟩,L1⟩
  have E:k=n:=by simp at hc;omega
  rw[E,hn]at ae
  let MB:List Qx:=MM xb m (Qaq b.all K h.rl b.all.length 0) (Qaq b.all D h.cl b.all.length 0)
  refine⟨Nat×Value,λ y=>[(4,.slice la n lc),(5,.slice (some ⟨xb,0,none⟩) h.rl h.rl),(6,.slice (some ⟨m,0,none⟩) h.cl h.cl),(13,.slice none 0 0),(12,y.2),(14,.int .i64 y.1)],λ y U'=>J.frz.lg U'/\y.1<=h.rl/\∃A,U'.M=A++MB/\Jw 51 1 y.2 (((range y.1).map b.fatR).map λ n=>.int .i64 n) A,λ y=>h.rl-y.1,(0,.slice none 0 0),T1,⟨aa,O1,[],ae,.nil⟩,?_⟩;rintro⟨r,v⟩f U5⟨Z,hr,A,P,j⟩;simp only at hr j;obtain⟨ra,rn,rc,rfl,bz⟩:=j.src;have ak:Zu ((r:Int)+1):=I1
  repeat refine⟨rfl,?_⟩
  conv=>whnf
  apply Qe<;>intro hc
  .have hlt:r<h.rl:=by simpa using hc
   have X:U5.sees ((Addr.mk xb 0 none).add (r*1)) (.int .i64 ((Qaq b.all K h.rl b.all.length 0).getD r 0:Nat)):=by
    rw[Nat.mul_one];exact Za (A++[.obj m (.cells (Qdg (Qaq b.all D h.cl b.all.length 0)).toArray 3 (0,0))]) (e:=3) (vs:=Qdg (Qaq b.all K h.rl b.all.length 0)) (M₀:=J.M) (by rw[P];simp[MB,MM]) _ _ (Qvz (by rw[Qbj];exact hlt))
   have am:H9 ((Qaq b.all K h.rl b.all.length 0).getD r 0) n=b.fatR r:=by
    rw[Znw,getD_eq_getElem?_getD,getElem?_map,getElem?_range hlt,hn];rfl
   refine⟨_,r,⟨rfl,rfl,hlt⟩,_,X,Qpj.any,(Qjj _ _).go λ _=>?_⟩;rw[am]
   conv=>whnf
   intro bn z;refine Zk z λ x1 k1 z=>?_;have z:Zi x1 bn #[.int .i64 (b.fatR r)]:=z;have al:=Z.trans k1.lg
   conv=>whnf
   refine Ws (v:=.slice ra rn rc) (cs:=((range r).map b.fatR).map λ n=>.int .i64 n) (new:=[.int .i64 (b.fatR r)]) (M₀:=MB) DB rfl rfl (by rw[k1.own,P];exact j _) (.inr ⟨_,rfl,z.rd⟩) rfl (by simp[Value.single]) S3 λ v' M' W _=>?_;have W:Acc 51 1 v' (((range (r+1)).map b.fatR).map λ n=>.int .i64 n) M' (MB):=by rw[range_succ];simpa using W
   obtain⟨az,q,Q⟩:=W.split;obtain⟨ta,tl,tc,rfl,-⟩:=Q.src;refine⟨ak,?_⟩
   conv=>whnf
   exact⟨rfl,(r+1,.slice ta tl tc),T1,⟨⟨al.imm,⟨_,(append_nil _).symm⟩,al.tok⟩,by show r+1<=h.rl;omega,az,q,Q⟩,L1⟩
  have E:r=h.rl:=by simp at hc;omega
  subst E;have ag:Jw 51 1 (.slice ra rn rc) (b.fatesR.map λ n=>.int .i64 n) A:=by unfold Bk.fatesR;rw[bj];exact j
  have ay:=P;have bg:=Z;obtain⟨O,ba⟩:∃O,O=A:=⟨_,rfl⟩;rw[<- ba]at ag ay;clear P j Z ba;refine⟨Nat×Value,λ y=>[(4,.slice la n lc),(6,.slice (some ⟨m,0,none⟩) h.cl h.cl),(12,.slice ra rn rc),(13,y.2),(15,.int .i64 y.1)],λ y U'=>J.frz.lg U'/\y.1<=h.cl/\∃A,U'.M=A++(O++MB)/\Jw 51 1 y.2 (((range y.1).map b.fatC).map λ n=>.int .i64 n) A,λ y=>h.cl-y.1,(0,.slice none 0 0),T1,⟨bg,O1,[],ay,.nil⟩,?_⟩;rintro⟨r,v⟩f U6⟨Z,hr,A,P,j⟩;simp only at hr j;obtain⟨ua,ul,uc,rfl,bz⟩:=j.src;have ak:Zu ((r:Int)+1):=I1
  repeat refine⟨rfl,?_⟩
  conv=>whnf
  apply Qe<;>intro hc
  .have hlt:r<h.cl:=by simpa using hc
   have X:U6.sees ((Addr.mk m 0 none).add (r*1)) (.int .i64 ((Qaq b.all D h.cl b.all.length 0).getD r 0:Nat)):=by
    rw[Nat.mul_one];exact Za (A++O) (e:=3) (vs:=Qdg (Qaq b.all D h.cl b.all.length 0)) (M₀:=.obj xb (.cells (Qdg (Qaq b.all K h.rl b.all.length 0)).toArray 3 (0,0))::J.M) (by rw[P];simp[MB,MM]) _ _ (Qvz (by rw[Qbj];exact hlt))
   have am:H9 ((Qaq b.all D h.cl b.all.length 0).getD r 0) n=b.fatC r:=by
    rw[Znw,getD_eq_getElem?_getD,getElem?_map,getElem?_range hlt,hn];rfl
   refine⟨_,r,⟨rfl,rfl,hlt⟩,_,X,Qpj.any,(Qjj _ _).go λ _=>?_⟩;rw[am]
   conv=>whnf
   intro bn z;refine Zk z λ x1 k1 z=>?_;have z:Zi x1 bn #[.int .i64 (b.fatC r)]:=z;have al:=Z.trans k1.lg
   conv=>whnf
   refine Ws (v:=.slice ua ul uc) (cs:=((range r).map b.fatC).map λ n=>.int .i64 n) (new:=[.int .i64 (b.fatC r)]) (M₀:=(O++MB)) DB rfl rfl (by rw[k1.own,P];exact j _) (.inr ⟨_,rfl,z.rd⟩) rfl (by simp[Value.single]) S3 λ v' M' W _=>?_;have W:Acc 51 1 v' (((range (r+1)).map b.fatC).map λ n=>.int .i64 n) M' ((O++MB)):=by rw[range_succ];simpa using W
   obtain⟨az,q,Q⟩:=W.split;obtain⟨ta,tl,tc,rfl,-⟩:=Q.src;refine⟨ak,?_⟩
   conv=>whnf
   exact⟨rfl,(r+1,.slice ta tl tc),T1,⟨⟨al.imm,⟨_,(append_nil _).symm⟩,al.tok⟩,by show r+1<=h.cl;omega,az,q,Q⟩,L1⟩
  have E:r=h.cl:=by simp at hc;omega
  subst E;have a5:Jw 51 1 (.slice ua ul uc) (b.fatesC.map λ n=>.int .i64 n) A:=by unfold Bk.fatesC;rw[ao];exact j
  repeat refine⟨rfl,?_⟩
  conv=>whnf
  exact⟨_,_,O,A,[.obj m (.cells (Qdg (Qaq b.all D h.cl b.all.length 0)).toArray 3 (0,0)),.obj xb (.cells (Qdg (Qaq b.all K h.rl b.all.length 0)).toArray 3 (0,0))],rfl,ag,a5,by rw[P];simp only[MB,MM];rw[af.own,an.own];rfl,λ x u g=>Z.imm x u (af.imm x u (an.imm x u g)),Z.tok.trans (af.tok.trans an.tok)⟩
 have b4:=bo.sep (R':=λ v U'=>∃v1 v2 O Y,v=.tuple #[v1,v2]/\Jw 51 1 v1 (b.fatesR.map λ n=>.int .i64 n) O/\Jd U'.frz v2 b.fatesC/\U'.M=O++(Y++U.M)/\(∀x o,U.I x=some o->U'.I x=some o)/\U'.tok=U.tok) λ v U' hs⟨v1,v2,O,A2,Y,e,a1,a2,V,hI,ht⟩=>by
  obtain⟨x1,k1,k2,a,len,cap,rfl,e2,e3,e4,-⟩:=Acc.freeze (U:={ U' with M:=O++(Y++U.M) }) hs (by rw[V];exact a2 _) (λ _ _ h=>h) rfl;simp at e2;exact⟨x1,k1,v1,_,O,Y,e,a1,⟨a,cap,by rw[e2],Vf e3 e4⟩,k2.own,λ x u g=>k2.imm x u (hI x u g),k2.tok.trans ht⟩
 refine b4.sep λ v U' hs⟨v1,v2,O,Y,e,a1,b0,V,hI,ht⟩=>?_;obtain⟨x1,k1,k2,a,len,cap,rfl,e2,e3,e4,-⟩:=Acc.freeze (U:={ U' with M:=Y++U.M }) hs (by rw[V];exact a1 _) (λ _ _ h=>h) rfl;simp at e2;have hz:U'.frz.lg x1.frz:=⟨k2.imm,⟨[],rfl⟩,k2.tok⟩;exact⟨{ x1 with M:=U.M },k1.trans (Z1 (by rw[k2.own];exact sublist_append_right ..)),⟨_,_,e,⟨a,cap,by rw[e2],Vf e3 e4⟩,b0.lg hz⟩,⟨λ x u g=>k2.imm x u (hI x u g),rfl,k2.tok.trans ht⟩⟩
end Go.Proofs
namespace Go.TM
variable{T:Type}{U:Qa T}
def Bk.dN(b:Bk)(q:Nat)(w:Bool)(j:Nat):List Nat:=((b.all.drop j).find? λ o=>(b.ends o).1.getD q false==w).getD []
def Bk.dN_zero(b:Bk)(q:Nat)(w:Bool):b.dN q w 0=b.difS q w:=rfl
def Bk.dN_end(b:Bk)(q:Nat)(w:Bool):b.dN q w b.all.length=[]:=by unfold Bk.dN;rw[drop_length];rfl
def Bk.dN_step{b:Bk}{q m:Nat}{w:Bool}{o:List Nat}(h:b.all[m]?=some o):b.dN q w m=if(b.ends o).1.getD q false==w then o else b.dN q w (m+1):=by
 unfold Bk.dN;rw[WT h,find?_cons];cases a:(b.ends o).1.getD q false==w <;> simp
end Go.TM
namespace Go.Proofs
open Go.TM
section
variable{T:Type}{S:TM.Sys prog T}{U:Qa T}
attribute [local irreducible] Qb Zl Wt
def Q0o(h:BH)(b:Bk)(d:Zq U.frz h b)(g:h.rl<=h.rc)(r:Int):Qb S 81 #[h.v,.int .i64 r] (λ v U'=>v=.int .i64 (b.askF r)/\U'=U) U:=by
 refine Qb.pure' (Qb.of (args:=[_,_]) Zk4 Qf S1 ?_);have j:=d.rs.1;have m:=d.rl;have f:b.nr=(h.rl:Int):=by unfold Bk.nr;rw[j]
 repeat refine⟨rfl,?_⟩
 conv=>whnf
 intro B n a c;have c:Zi n B #[.slice h.ra h.rl h.rc,.slice h.ca h.cl h.cc]:=c;refine⟨_,⟨rfl,c.rd⟩,?_⟩;refine⟨D6.any,(xZ h b (d.lg a.lg.frz2) g).go λ _=>?_⟩
 repeat refine⟨rfl,?_⟩
 conv=>whnf
 apply Qe<;>intro l
 .have e:b.flaw Qu≠0:=by simpa using l
  repeat refine⟨rfl,?_⟩
  conv=>whnf
  exact⟨by unfold Bk.askF;rw[if_neg e],a.lg⟩
 have e:b.flaw Qu=0:=by simpa using l
 have q:b.askF r=if btw r 0 ((h.rl:Int)-1)then 0 else 6:=by unfold Bk.askF;rw[if_pos e,f]
 rw[q];refine⟨_,c.sees3 (o:=0) rfl,I1,?_⟩;refine⟨PM.any,(Ky _ _ _ _).go λ _=>?_⟩;cases s:btw r 0 ((h.rl:Int)-1)with
 |false=>
  repeat refine⟨rfl,?_⟩
  conv=>whnf
  exact a.lg
 |true=>
  repeat refine⟨rfl,?_⟩
  conv=>whnf
  exact a.lg
def Q0j(h:BH)(b:Bk)(q:Zq U.frz h b)(n:h.rl<=h.rc):Qb S 27 #[h.v] (λ v U'=>(∃d f,v=.tuple #[d,f,.int .i64 (b.flaw Qu)]/\Jd U'.frz d (if b.flaw Qu=0 then b.fatesR else[])/\Jd U'.frz f (if b.flaw Qu=0 then b.fatesC else[]))/\U.le U') U:=by
 refine Qb.grown (R:=λ v U'=>∃d f,v=.tuple #[d,f,.int .i64 (b.flaw Qu)]/\Jd U' d (if b.flaw Qu=0 then b.fatesR else[])/\Jd U' f (if b.flaw Qu=0 then b.fatesC else[])) (λ v o t s⟨d,f,e,j,l⟩=>⟨d,f,e,j.lg s,l.lg s⟩) (Qb.of (args:=[_]) Zc6 Qf S1 ?_)
 repeat refine⟨rfl,?_⟩
 conv=>whnf
 intro B o a g;have g:Zi o B #[.slice h.ra h.rl h.rc,.slice h.ca h.cl h.cc]:=g;refine⟨_,⟨rfl,g.rd⟩,?_⟩;refine⟨D6.any,(xZ h b (q.lg a.lg.frz2) n).go λ _=>?_⟩
 repeat refine⟨rfl,?_⟩
 conv=>whnf
 apply Qe<;>intro r
 .have c:b.flaw Qu≠0:=by simpa using r
  repeat refine⟨rfl,?_⟩
  conv=>whnf
  rw[if_neg c,if_neg c];exact⟨⟨_,_,rfl,.nil,.nil⟩,a.lg⟩
 have c:b.flaw Qu=0:=by simpa using r
 rw[if_pos c,if_pos c,c];refine⟨_,⟨rfl,g.rd⟩,?_⟩;refine⟨Zg4.any,(Q0k h b (q.lg a.lg.frz2) (Bk.ok_of c)).mono ?_⟩;rintro _ t⟨⟨_,_,rfl,⟨u,x,rfl,j⟩,⟨w,y,rfl,l⟩⟩,m⟩-
 repeat refine⟨rfl,?_⟩
 conv=>whnf
 exact⟨⟨_,_,rfl,⟨u,x,rfl,j⟩,⟨w,y,rfl,l⟩⟩,(a.trans m).lg⟩
set_option maxHeartbeats 2000000 in
def Qvy(h:BH)(b:Bk)(hb:Zq U.frz h b)(ax:h.rl<=h.rc)(r:Int) :
  Qb S 30 #[h.v,.int .i64 r] (λ v U'=>(∃D E,v=.tuple #[D,E,.int .i64 (b.askF r)]/\Jd U'.frz D (if b.askF r=0 then Qae (b.difS r.toNat true)else[])/\Jd U'.frz E (if b.askF r=0 then Qae (b.difS r.toNat false)else[]))/\U.le U') U:=by
 refine Qb.grown (R:=λ v U'=>∃D E,v=.tuple #[D,E,.int .i64 (b.askF r)]/\Jd U' D (if b.askF r=0 then Qae (b.difS r.toNat true)else[])/\Jd U' E (if b.askF r=0 then Qae (b.difS r.toNat false)else[])) (λ v U1 U2 hl⟨D,E,e,h1,h2⟩=>⟨D,E,e,h1.lg hl,h2.lg hl⟩) (Qb.of (args:=[_,_]) Zg3 Qf S1 ?_);have K:=hb.cs.1;have ay:=hb.rs.1
 repeat refine⟨rfl,?_⟩
 conv=>whnf
 intro B U1 G hB;have hB:Zi U1 B #[.slice h.ra h.rl h.rc,.slice h.ca h.cl h.cc]:=hB;have J:=hb.lg G.lg.frz2;refine⟨_,⟨rfl,hB.rd⟩,?_⟩;refine⟨Zk4.any,(Q0o h b J ax r).go λ _=>?_⟩
 repeat refine⟨rfl,?_⟩
 conv=>whnf
 apply Qe<;>intro hc
 .have M:b.askF r≠0:=by simpa using hc
  repeat refine⟨rfl,?_⟩
  conv=>whnf
  rw[if_neg M,if_neg M];exact⟨⟨_,_,rfl,.nil,.nil⟩,G.lg⟩
 have M:b.askF r=0:=by simpa using hc
 obtain⟨P,av,aw⟩:=Bk.askF_ok M;obtain⟨q,rfl⟩:=Int.eq_ofNat_of_zero_le av;have hq:q<h.rl:=by unfold Bk.nr at aw;omega
 rw[if_pos M,if_pos M,M,Int.toNat_natCast];have au:=P.nc;have an:=b.all_le au;refine⟨_,⟨rfl,hB.rd⟩,?_⟩;refine⟨Qdc.any,(Qek h b P K h.cl [] U1 J none 0 ⟨rfl,λ i x Y=>by simp[Qae]at Y⟩ S1).mono ?_⟩;rintro _ U2⟨⟨la,lc,cells,rfl,af,ae,s⟩,H⟩-;have aa:b.ords h.cl []=b.all:=by unfold Bk.all;rw[K]
 rw[aa]at s;have hn:cells.length=b.all.length:=by rw[s.1];simp
 have hL:J3 U2.frz la b.all.length (b.all.map Qae):=by have:=s.lists af ae;rwa [length_map]at this
 rw[hn];have am:=hB.lg H.lg;have ao:=J.lg H.lg.frz2;have ak:=G.trans H;have e0:∀m:Nat,((m+1:Nat):Int)-1=(m:Int):=λ m=>O1
 refine⟨I1,?_⟩;refine⟨Nat×Value×Value,λ y=>[(1,.int .i64 q),(2,.pointer (some ⟨B,0,none⟩)),(8,.slice la b.all.length lc),(9,y.2.1),(10,y.2.2),(11,.int .i64 ((y.1:Int)-1))],λ y U'=>U2.le U'/\y.1<=b.all.length/\Jd U'.frz y.2.1 (Qae (b.dN q true y.1))/\Jd U'.frz y.2.2 (Qae (b.dN q false y.1)),λ y=>y.1,(b.all.length,.slice none 0 0,.slice none 0 0),T1,⟨.refl _,Nat.le_refl _,by show Jd _ _ (Qae (b.dN q true b.all.length));rw[b.dN_end];exact .nil,by show Jd _ _ (Qae (b.dN q false b.all.length));rw[b.dN_end];exact .nil⟩,?_⟩;rintro⟨j,D,E⟩f U3⟨g,hj,ag,ah⟩;simp only at hj ag ah;obtain⟨Z,c1,rfl,N⟩:=ag;obtain⟨a2,c2,rfl,O⟩:=ah;have al:=ak.trans g
 repeat refine⟨rfl,?_⟩
 conv=>whnf
 apply Qe<;>intro hc
 .obtain⟨m,rfl⟩:∃m,j=m+1:=⟨j-1,by simp at hc;omega⟩;obtain⟨o,z⟩:∃o,b.all[m]?=some o:=⟨_,getElem?_eq_getElem O1⟩;have ho:=Bk.mem_all_iff.1 (mem_of_getElem? z);have a:=Bk.dN_step (q:=q) (w:=true) z;have c:=Bk.dN_step (q:=q) (w:=false) z;obtain⟨t,l,W,gl,X,ai,L,a7,ac,d,a8,a9⟩:=hL.at (show m<b.all.length by omega);obtain rfl:Qae o=l:=by rw[getElem?_map,z]at ai;exact Option.some.inj ai
  have F:=d.1;obtain rfl:o.length=gl:=by rw[<- F];simp[Qae]
  have ba:=ho.len;refine⟨_,⟨rfl,(am.lg g.lg).rd⟩,?_⟩;refine⟨t,m,⟨L,e0 m,O1⟩,_,ac.lg (SX Qp g),λ v U'=>∃sa Q T V,v=.tuple #[.slice sa h.rl Q,.slice T h.cl V]/\(∀(i:Nat)x,(b.ends o).1[i]?=some x->∃t,sa=some t/\t.spot=none/\U'.frz.sees (t.add (i*1)) (.bool x)),λ v x1 x2⟨sa,Q,T,V,e,q1⟩u=>⟨sa,Q,T,V,e,(λ i x Y=>let ⟨t,Z,a2,a3⟩:=q1 i x Y;⟨t,Z,a2,a3.lg u.lg.frz2⟩)⟩,λ U' u _=>?_,λ v hv=>?_⟩
  .refine⟨Q0h.any,(Qf7 h b (ao.lg (g.trans u).lg.frz2) P W X o (d.lg (g.trans u).lg.frz2) ho.low O1).mono ?_⟩;rintro _ U'⟨⟨_,_,rfl,⟨sa,Q,rfl,q1⟩,⟨T,V,rfl,q2⟩⟩,ab⟩-;rw[(b.end_len o).1,(b.end_len o).2,ay,K];exact⟨_,.refl _,⟨sa,Q,T,V,rfl,q1⟩,ab⟩
  obtain⟨_,-,-,sa,Q,T,V,rfl,-⟩:=hv
  conv=>whnf
  intro U4 I hC;obtain⟨-,a0,a4,a5,a6,e,hS⟩:=hC;obtain⟨⟨rfl,rfl⟩,rfl,rfl⟩:(sa=a0/\Q=a4)/\T=a5/\V=a6:=by simpa using e
  obtain⟨x,Y⟩:∃x,(b.ends o).1[q]?=some x:=⟨_,getElem?_eq_getElem (by rw[(b.end_len o).1];omega)⟩;obtain⟨aj,ap,-,az⟩:=hS q x Y;have aq:(b.ends o).1.getD q false=x:=by simp[getD_eq_getElem?_getD,Y]
  rw[aq]at a c;have n:=g.trans I;refine⟨aj,q,⟨ap,rfl,hq⟩,_,az.lg Qp,?_⟩;have C:U4.sees (t.add (m*1)) (.slice W o.length X):=ac.lg (SX Qp n);have A:Zu (((m+1:Nat):Int)-1-1):=I1
  cases x with
  |true=>
   have a:b.dN q true m=o:=a;have c:b.dN q false m=b.dN q false (m+1):=c;refine⟨t,m,⟨L,e0 m,O1⟩,_,C,A,?_⟩
   conv=>whnf
   exact⟨rfl,(m,.slice W o.length X,.slice a2 _ c2),⟨rfl,rfl,rfl,rfl,rfl,by rw[e0];rfl,trivial⟩,⟨n,by show m<=_;omega,by show Jd _ _ (Qae (b.dN q true m));rw[a];exact⟨W,X,by simp[Qae],by rw[show(Qae o).length=o.length by simp[Qae]];exact d.lg n.lg.frz2⟩,by show Jd _ _ (Qae (b.dN q false m));rw[c];exact⟨a2,c2,rfl,O.lg I.lg.frz2⟩⟩,Nat.lt_succ_self m⟩
  |false=>
   have a:b.dN q true m=b.dN q true (m+1):=a;have c:b.dN q false m=o:=c;refine⟨t,m,⟨L,e0 m,O1⟩,_,C,A,?_⟩
   conv=>whnf
   exact⟨rfl,(m,.slice Z _ c1,.slice W o.length X),⟨rfl,rfl,rfl,rfl,rfl,by rw[e0];rfl,trivial⟩,⟨n,by show m<=_;omega,by show Jd _ _ (Qae (b.dN q true m));rw[a];exact⟨Z,c1,rfl,N.lg I.lg.frz2⟩,by show Jd _ _ (Qae (b.dN q false m));rw[c];exact⟨W,X,by simp[Qae],by rw[show(Qae o).length=o.length by simp[Qae]];exact d.lg n.lg.frz2⟩⟩,Nat.lt_succ_self m⟩
 have ar:j=0:=by simp at hc;omega
 subst ar;rw[b.dN_zero]at N O
 repeat refine⟨rfl,?_⟩
 conv=>whnf
 exact⟨⟨_,_,rfl,⟨Z,c1,rfl,N⟩,⟨a2,c2,rfl,O⟩⟩,al.lg⟩
end
attribute [local irreducible] Qb Zl Wt
set_option maxHeartbeats 2000000 in
def Zpg{U:Qa Tk}(j:U.tok=⟨0,.out,none⟩)(G:WA U)(h:BH)(b:Bk)(u:Zq U.frz h b)(K:DH b)(y:h.rl<=h.rc)(aa:h.cl<=h.cc)(r:Int) :
  J (Zb prog 209 6) (QA prog λ v U'=>v=.bool true/\U.lg U') true (Rf (Frame.enter prog 4 #[h.v,.int .i64 r] .normal) []) U:=by
 refine Zpy (args:=[_,_]) (Q:=λ v U'=>v=.bool true/\U.lg U') Zpw Qf K1 S1 (λ v U' q=>q.2.tok.trans j) ?_;have s:∀n:Qa Tk,U.lg n->Qb (Zb prog 209 6) 20 #[] (λ v U'=>v=.bool true/\U'=n) n:=λ n h=>Zm2 (h.tok.trans j) (G.lg h)
 repeat refine⟨rfl,?_⟩
 conv=>whnf
 intro B z a D;have D:Zi z B #[.slice h.ra h.rl h.rc,.slice h.ca h.cl h.cc]:=D;have c:=u.lg a.lg.frz2;have d:∀w:Qa Tk,z.le w->Jn w ⟨B,0,none⟩ [.slice h.ra h.rl h.rc,.slice h.ca h.cl h.cc]:=λ w hw=>(D.lg hw.lg).rd;refine⟨_,⟨rfl,d _ (.refl _)⟩,Er.any,(vY h b c K).mono ?_⟩;rintro _ U'⟨⟨g,rfl⟩,E⟩-;obtain rfl:=E.symm;have M:Qb (Zb prog 209 6) 20 #[] (λ v U'=>v=.bool true/\U'=z) z:=s _ a.lg;cases g with
 |true=>
  refine⟨yL.any,M.go λ _=>?_⟩
  repeat refine⟨rfl,?_⟩
  conv=>whnf
  exact a.lg
 |false=>
 have ac:b.fatesR.length<2^60:=by simp[Bk.fatesR];have:=u.rs.1;have:=u.rl;omega
 have ab:b.fatesC.length<2^60:=by simp[Bk.fatesC];have:=u.cs.1;have:=u.cl;omega
 have H:∀p:Prop,[Decidable p]->(if p then b.fatesR else[]).length<2^60:=λ p _=>by split <;> simp <;> omega
 have I:∀p:Prop,[Decidable p]->(if p then b.fatesC else[]).length<2^60:=λ p _=>by split <;> simp <;> omega
 refine⟨_,⟨rfl,d _ (.refl _)⟩,Fj.any,(yC h b c (G.lg a.lg)).mono ?_⟩;rintro _ n⟨⟨_,_,rfl,⟨xa,xc,rfl,Z⟩,⟨ya,yc,rfl,hY⟩⟩,e⟩-;refine⟨_,⟨rfl,d _ e⟩,Zc6.any,(Q0j h b (c.lg e.lg.frz2) y).mono ?_⟩;rintro _ U3⟨⟨_,_,rfl,⟨ua,uc,rfl,X⟩,⟨va,vc,rfl,Y⟩⟩,f⟩-;refine⟨S4.any,(LL xa ua _ xc _ uc _ _ ((Z.lg f.lg.frz2).lg Qp) (X.lg Qp) (H _)).go λ _=>?_⟩;rw[decide_eq_true rfl];refine⟨S4.any,(LL ya va _ yc _ vc _ _ ((hY.lg f.lg.frz2).lg Qp) (Y.lg Qp) (I _)).go λ _=>?_⟩;rw[decide_eq_true rfl]
 repeat refine⟨rfl,?_⟩
 conv=>whnf
 apply Qe<;>intro hc
 .exact absurd hc S1
 have A:=(a.trans e).trans f;have l:=e.trans f;refine⟨_,⟨rfl,d _ l⟩,Lv.any,(pv h b (c.lg l.lg.frz2) (G.lg A.lg) r).mono ?_⟩;rintro _ U4⟨⟨_,_,rfl,⟨N,S,rfl,k1⟩,⟨O,T,rfl,k2⟩⟩,F⟩-;have m:=l.trans F;refine⟨_,⟨rfl,d _ m⟩,Zg3.any,(Qvy h b (c.lg m.lg.frz2) y r).mono ?_⟩;rintro _ U5⟨⟨_,_,rfl,⟨P,V,rfl,k3⟩,⟨R,W,rfl,k4⟩⟩,C⟩-;have t:=(a.trans m).trans C
 have x:∀w,(if b.askF r=0 then Qae (b.difS r.toNat w)else[]).length<2^60:=λ w=>by
  split
  .rename_i ha;obtain⟨L,-,-⟩:=Bk.askF_ok ha;have ad:=L.nc;rw[show(Qae (b.difS r.toNat w)).length=(b.difS r.toNat w).length by simp[Qae]];unfold Bk.difS;cases hf:b.all.find? λ o=>(b.ends o).1.getD r.toNat false==w with
   |none=>simp
   |some o=>
    have:=(Bk.mem_all_iff.1 (mem_of_find?_eq_some hf)).len;simp only[Option.getD_some];omega
  .simp
 refine⟨Gx.any,(PP N P _ S _ V _ _ ((k1.lg C.lg.frz2).lg Qp) (k3.lg Qp) (x true)).go λ _=>?_⟩;rw[decide_eq_true rfl];refine⟨Gx.any,(PP O R _ T _ W _ _ ((k2.lg C.lg.frz2).lg Qp) (k4.lg Qp) (x false)).go λ _=>?_⟩;rw[decide_eq_true rfl];refine⟨rfl,?_⟩;rw[beq_self_eq_true];refine⟨yL.any,(s _ t.lg).go λ _=>?_⟩
 repeat refine⟨rfl,?_⟩
 conv=>whnf
 exact t.lg
end Go.Proofs

