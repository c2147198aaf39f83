/- Lemmas. No conditions. -/
import Derived.Test.YtignaaddghcanaaGreatDoorB40
set_option linter.all false
set_option maxRecDepth 100000
open List
open Go.Proofs.Tryz (prog)
namespace Go.TM
open Go.Proofs
variable{H:Type}{enc:TypeId×Value->H}{W:World}{fuel m:Nat}{x:DataW H×List MemPlace}{v:Value}{r:List Value}{y:DataW H×List MemPlace}{c:Array Value}
section
open Go.TM Go.ChangeShapes Go.WideShapes Go.RowKit
def UO:prog.underlying 22=some (.slice 9):=K1
def UP:prog.underlying 23=some (.slice 39):=K1
def UQ:prog.underlying 37=some (.slice 3):=K1
def gQ:prog.underlying 36=some (.slice 37):=K1
def j_:KM prog 25 [(22,0),(23,1)]=true:=K1
def we:KM prog 39 [(9,0),(3,1),(36,2),(37,3)]=true:=K1
def zi:prog.cellsOf 22=1:=K1
def qW:prog.cellsOf 23=1:=K1
def qX:prog.cellsOf 25=2:=K1
def DM:prog.cellsOf 37=1:=K1
def qY:prog.cellsOf 36=1:=K1
def DN:prog.cellsOf 39=4:=K1
def zg:0<prog.bytesOf 37:=of_decide_eq_true K1
def zh:0<prog.bytesOf 39:=of_decide_eq_true K1
def IK(h:JV enc prog W fuel 37 [v]=some x)(B:Sz prog 37 x.1):∃a len cap l,v=.slice a len cap/\Z3 (Qa.all W) a len l/\len<2^60:=by
 obtain⟨a,len,cap,l,b,f,w⟩:=KJ (R:=λ(n:Int)vs=>vs=[.int .i64 n]) UQ E1 D1 Mh h B λ m r y z _=>Lz ID z;exact⟨a,len,cap,l,b,f.ints,w⟩
def vq(h:JV enc prog W fuel 36 [v]=some x)(w:Sz prog 36 x.1):∃a len cap H,v=.slice a len cap/\Wl (Qa.all W) a len H/\len<2^60:=
 KJ (R:=λ(l:List Int)vs=>∃a' b f,vs=[.slice a' b f]/\Z3 (Qa.all W) a' b l/\b<2^60) gQ DM D1 zg h w λ m r y B w=>by
  have G:r.length=1:=by
   rcases DataW.trod_slice UQ B with⟨z,-⟩|⟨_,_,_,_,_,_,_,z,-⟩ <;> rw[z] <;> rfl
  obtain⟨c0,rfl⟩:=length_eq_one_iff.1 G;obtain⟨a,len,cap,l,rfl,E,F⟩:=IK B w;exact⟨l,a,len,cap,rfl,E,F⟩
def kA(h:JV enc prog W m 39 r=some y)(X:Sz prog 39 y.1) :
  ∃c:Cs,HF (Qa.all W) c r/\c.nm.size<2^50:=by
 obtain⟨fs,V,b⟩:=FI we;obtain⟨L,m',f⟩:=Dh V h X;rw[DN]at L;obtain⟨c0,c1,c2,c3,rfl⟩:=pY L;obtain⟨y0,F,Y⟩:=Gd (i:=0) (ft:=9) (off:=0) f (b 0 _ _ rfl) E2;obtain⟨y1,G,z1⟩:=Gd (i:=1) (ft:=3) (off:=1) f (b 1 _ _ rfl) E1;obtain⟨y2,I,Z⟩:=Gd (i:=2) (ft:=36) (off:=2) f (b 2 _ _ rfl) qY;obtain⟨y3,K,z3⟩:=Gd (i:=3) (ft:=37) (off:=3) f (b 3 _ _ rfl) DM;simp only[drop_zero,drop_succ_cons,take_succ_cons,take_zero]at F G I K;obtain⟨s,B,U⟩:=LA F Y;obtain⟨n,E⟩:=Lz ID G;obtain⟨ga,gl,gc,gs,P,T,z⟩:=vq I Z;obtain⟨N,al,ac,af,Q,S,w⟩:=IK K z3;simp only[List.cons.injEq,and_true]at B E;subst B E P Q;exact⟨⟨s,n,gs,af⟩,⟨ga,gl,gc,N,al,ac,rfl,T,z,S,w⟩,U⟩
def Zoi(h:JV enc prog W fuel 25 c.toList=some x)(E:Sz prog 25 x.1) :
  ∃(h:BH)(b:Bk),Value.agg c=h.v/\Zq (Qa.all W) h b/\(∀s∈b.rs,s.size<2^50)/\(∀c∈b.cs,c.nm.size<2^50)/\h.rl<=h.rc/\h.cl<=h.cc:=by
 obtain⟨Y,T,B⟩:=FI j_;obtain⟨N,Z,I⟩:=Dh T h E;rw[qX]at N;obtain⟨c0,F,L⟩:=L6 N;rw[L]at I;obtain⟨y0,G,V⟩:=Gd (i:=0) (ft:=22) (off:=0) I (B 0 _ _ rfl) zi;obtain⟨y1,H,X⟩:=Gd (i:=1) (ft:=23) (off:=1) I (B 1 _ _ rfl) qW;simp only[drop_zero,drop_succ_cons,take_succ_cons,take_zero]at G H;obtain⟨ra,rl,rc,rs,rfl,Q,U⟩:=KJ (R:=λ(s:ByteArray)r=>r=[.string s]/\s.size<2^50) UO E2 D1 Mi G V λ m r y K E=>LA K E;obtain⟨ca,cl,cc,w,rfl,F,S⟩:=KJ (R:=λ(c:Cs)r=>HF (Qa.all W) c r/\c.nm.size<2^50) UP DN D1 zh H X λ m r y K E=>kA K E;have P:∀s∈rs,s.size<2^50:=λ s f=>let ⟨_,h⟩:=Q.all s f;h.2;have z:∀c∈w,c.nm.size<2^50:=λ s f=>let ⟨_,h⟩:=F.all s f;h.2;refine⟨⟨ra,rl,rc,ca,cl,cc⟩,⟨rs,w⟩,by rw[<- Array.toArray_toList (xs:=c),L],⟨Q.le (.refl _) λ _ _ h=>h.1,F.le (.refl _) λ _ _ h=>h.1,U,S,λ s f=>Nat.lt_of_lt_of_le (P s f) D1,λ s f=>Nat.lt_of_lt_of_le (z s f) D1⟩,P,z,Ly UO G,Ly UP H⟩
