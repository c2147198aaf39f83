/- Lemmas. No conditions. -/
import Derived.Test.YtcakpkianonbkaaGreatDoorB46
import Derived.Test.YtcakpkianonbkaaGreatDoorB44
set_option linter.all false
open List
open Go.Proofs.Tryz (prog)
set_option maxRecDepth 100000
noncomputable section
namespace Go.TM
def dh{α:Type}{l:List α}(h:l.length=6):∃a b c d e f,l=[a,b,c,d,e,f]:=by
 cases l with
 |nil=>simp at h
 |cons a r=>
  cases r with
  |nil=>simp at h
  |cons b r=>obtain⟨c,d,e,f,rfl⟩:=UU (l:=r) (by simpa using h);exact⟨a,b,c,d,e,f,rfl⟩
end Go.TM
namespace Go.Proofs
open Go.TM Go.ChangeShapes Go.WideShapes Go.RowKit
noncomputable def M5:String:=(YtcakpkianonbkaaGreatDoor.Rows.rivalLateRow.named[1]?).getD Tryz.f6.name
def Gm:List Int:=[31,28,31,30,31,30,31,31,30,31,30,31]
def Ef:prog.globalNamed M5=some 1:=K1
def tT:(prog.globals[1]?).map (·.type)=some 185:=K1
def vU:prog.underlying 185=some (.array 12 3):=K1
def zr:prog.cellsOf 185=12:=K1
def BS:(KY.filter λ x=>x.2.handleName?.isNone)=[(M5,.agg (Gm.map λ n=>.lit (.int .i64 n)))]:=K1
def Zs3{W:World}(h:laidMetH prog KY W):H4 (Qa.all W):=by
 have w:=(laidMetH_iff.1 h).1;rw[BS]at w;obtain⟨ps,M,-⟩:=w;obtain⟨g,t,cs,fuel,p,q,Q,U,b,P,-⟩:=M;obtain rfl:=Option.some.inj (Ef.symm.trans Q);obtain rfl:=Option.some.inj (tT.symm.trans U);obtain⟨xs,m,-,V,T,X,F⟩:=DataW.trod_array vU P;rw[zr]at T
 have z:xs.map (·.1)=Gm.map λ n=>.lit (.int .i64 n):=by
  have:=(Prod.mk.inj V).1;exact(DataW.agg.inj this).symm
 have E:cs=VK:=by
  apply Array.ext'
  have key:∀i,i<12->cs.toList[i]?=(Gm[i]?).map λ n=>Value.int .i64 n:=by
   intro i S;have w:=F i S;obtain⟨x,B⟩:∃x,xs[i]?=some x:=⟨_,getElem?_eq_getElem O1⟩;rw[B,Z7]at w;obtain⟨n,I,K,-⟩:=DataW.trod_int W7 w;have e:(xs.map (·.1))[i]?=some x.1:=by rw[getElem?_map,B];rfl
   rw[z,getElem?_map,K]at e
   have L:Gm[i]?=some n:=by
    cases H:Gm[i]? with
    |none=>rw[H]at e;cases e
    |some k=>
     rw[H]at e;have:(DataW.lit (.int .i64 k):DataW Unit)=.lit (.int .i64 n):=Option.some.inj e;have:=(Lit.int.inj (DataW.lit.inj this)).2;rw[this]
   rw[L];have G:((cs.toList.drop (i*1)).take 1)[0]?=some (Value.int .i64 n):=by rw[I];rfl
   rw[getElem?_take,if_pos O1,getElem?_drop]at G;simpa using G
  have N:VK.toList=Gm.map λ n=>Value.int .i64 n:=rfl;rw[N];refine ext_getElem? λ i=>?_;rcases Nat.lt_or_ge i 12 with l|l
  .rw[key i l,getElem?_map]
  .rw[getElem?_eq_none O1,getElem?_eq_none (by show(Gm.map _).length<=i;rw[length_map];exact l)]
 unfold World.var? at b;rw[Ef]at b;simp only[Option.bind_some]at b;split at b
 .rename_i c t fr hb;cases b;exact⟨t,fr,by rw[<- E];exact hb⟩
 .cases b
section
variable{H:Type}{enc:TypeId×Value->H}{W:World}{fuel:Nat}{x:DataW H×List MemPlace}{v:Value}{cs:List Value}
def kI:prog.underlying 26=some (.int .i64):=K1
def kH:prog.underlying 23=some (.slice 130):=K1
def Mp:prog.underlying 29=some (.slice 116):=K1
def gL:prog.underlying 112=some (.slice 192):=K1
def gM:prog.underlying 113=some (.slice 118):=K1
def gN:prog.underlying 114=some (.slice 194):=K1
def BR:WZ prog 25 [(22,0),(23,1)]=true:=K1
def pD:WZ prog 28 [(3,0),(26,1)]=true:=K1
def BO:WZ prog 130 [(3,0),(3,1)]=true:=K1
def BP:WZ prog 192 [(3,0),(3,1)]=true:=K1
def BN:WZ prog 118 [(3,0),(3,1),(22,2)]=true:=K1
def BQ:WZ prog 194 [(3,0),(28,1),(3,3),(3,4),(3,5)]=true:=K1
def BM:WZ prog 116 [(9,0),(112,1),(113,2),(114,3)]=true:=K1
def pE:WZ prog 31 [(25,0),(3,2),(28,3),(28,5),(28,7),(28,9),(28,11),(3,13),(29,14)]=true:=K1
def px:prog.cellsOf 23=1:=K1
def Lw:prog.cellsOf 25=2:=K1
def py:prog.cellsOf 26=1:=K1
def G3:prog.cellsOf 28=2:=K1
def pz:prog.cellsOf 29=1:=K1
def pA:prog.cellsOf 31=15:=K1
def BD:prog.cellsOf 112=1:=K1
def BE:prog.cellsOf 113=1:=K1
def BF:prog.cellsOf 114=1:=K1
def IP:prog.cellsOf 116=4:=K1
def IQ:prog.cellsOf 118=3:=K1
def IR:prog.cellsOf 130=2:=K1
def IS:prog.cellsOf 192=2:=K1
def IT:prog.cellsOf 194=6:=K1
def By:0<prog.bytesOf 116:=of_decide_eq_true K1
def Bz:0<prog.bytesOf 118:=of_decide_eq_true K1
def BA:0<prog.bytesOf 130:=of_decide_eq_true K1
def BB:0<prog.bytesOf 192:=of_decide_eq_true K1
def BC:0<prog.bytesOf 194:=of_decide_eq_true K1
def Nz{t:TypeId}{m:Nat}{r:List Value}{y:DataW H×List MemPlace}(I:WZ prog t [(3,0),(3,1)]=true)(G:prog.cellsOf t=2)(h:QX enc prog W m t r=some y)(L:Sz prog t y.1):∃s:Int×Int,r=[.int .i64 s.1,.int .i64 s.2]:=by
 obtain⟨Q,K,b⟩:=Ha I;obtain⟨F,S,E⟩:=Hl K h L;rw[G]at F;obtain⟨c0,P,rfl⟩:=Vw F;obtain⟨T,z,V⟩:=Zs (i:=0) (ft:=3) (off:=0) E (b 0 _ _ rfl) Z7;obtain⟨U,B,X⟩:=Zs (i:=1) (ft:=3) (off:=1) E (b 1 _ _ rfl) Z7;simp only[drop_zero,drop_succ_cons,take_succ_cons,take_zero]at z B;obtain⟨M,e⟩:=WR W7 z;obtain⟨N,w⟩:=WR W7 B;simp only[List.cons.injEq,and_true]at e w;subst e w;exact⟨(M,N),rfl⟩
def GZ{m:Nat}{r:List Value}{y:DataW H×List MemPlace}(h:QX enc prog W m 28 r=some y)(I:Sz prog 28 y.1):∃s:Int×Int,r=[.int .i64 s.1,.int .i64 s.2]:=by
 obtain⟨N,G,b⟩:=Ha pD;obtain⟨F,P,E⟩:=Hl G h I;rw[G3]at F;obtain⟨c0,M,rfl⟩:=Vw F;obtain⟨Q,z,T⟩:=Zs (i:=0) (ft:=3) (off:=0) E (b 0 _ _ rfl) Z7;obtain⟨S,B,U⟩:=Zs (i:=1) (ft:=26) (off:=1) E (b 1 _ _ rfl) py;simp only[drop_zero,drop_succ_cons,take_succ_cons,take_zero]at z B;obtain⟨K,e⟩:=WR W7 z;obtain⟨L,w⟩:=WR kI B;simp only[List.cons.injEq,and_true]at e w;subst e w;exact⟨(K,L),rfl⟩
def sN{m:Nat}{r:List Value}{y:DataW H×List MemPlace}(h:QX enc prog W m 118 r=some y)(N:Sz prog 118 y.1):∃c,Hn (Qa.all W) c r:=by
 obtain⟨Z,M,b⟩:=Ha BN;obtain⟨I,m',e⟩:=Hl M h N;rw[IQ]at I;obtain⟨c0,X,Y,rfl⟩:=KO I;obtain⟨y0,E,z0⟩:=Zs (i:=0) (ft:=3) (off:=0) e (b 0 _ _ rfl) Z7;obtain⟨y1,F,z1⟩:=Zs (i:=1) (ft:=3) (off:=1) e (b 1 _ _ rfl) Z7;obtain⟨y2,G,V⟩:=Zs (i:=2) (ft:=22) (off:=2) e (b 2 _ _ rfl) VZ;simp only[drop_zero,drop_succ_cons,take_succ_cons,take_zero]at E F G;obtain⟨T,z⟩:=WR W7 E;obtain⟨U,B⟩:=WR W7 F;obtain⟨P,S,Q,l,K,L,w⟩:=Oc G V;simp only[List.cons.injEq,and_true]at z B;subst z B K;exact⟨(T,U,l),P,S,Q,rfl,L,w⟩
def dP{m:Nat}{r:List Value}{y:DataW H×List MemPlace}(h:QX enc prog W m 194 r=some y)(Q:Sz prog 194 y.1):∃d,Oq d r:=by
 obtain⟨fs,P,b⟩:=Ha BQ;obtain⟨N,m',e⟩:=Hl P h Q;rw[IT]at N;obtain⟨c0,c1,c2,c3,c4,c5,rfl⟩:=dh N;obtain⟨y0,G,z0⟩:=Zs (i:=0) (ft:=3) (off:=0) e (b 0 _ _ rfl) Z7;obtain⟨y1,I,Z⟩:=Zs (i:=1) (ft:=28) (off:=1) e (b 1 _ _ rfl) G3;obtain⟨y2,K,z2⟩:=Zs (i:=2) (ft:=3) (off:=3) e (b 2 _ _ rfl) Z7;obtain⟨y3,L,z3⟩:=Zs (i:=3) (ft:=3) (off:=4) e (b 3 _ _ rfl) Z7;obtain⟨y4,M,z4⟩:=Zs (i:=4) (ft:=3) (off:=5) e (b 4 _ _ rfl) Z7;simp only[drop_zero,drop_succ_cons,take_succ_cons,take_zero]at G I K L M;obtain⟨S,w⟩:=WR W7 G;obtain⟨⟨T,U⟩,z⟩:=GZ I Z;obtain⟨V,B⟩:=WR W7 K;obtain⟨X,E⟩:=WR W7 L;obtain⟨Y,F⟩:=WR W7 M;simp only[List.cons.injEq,and_true]at w z B E F;obtain⟨rfl,rfl⟩:=z;subst w B E F;exact⟨λ i=>[S,T,U,V,X,Y].getD i 0,rfl⟩
def dK{t e:TypeId}{m:Nat}{r:List Value}{y:DataW H×List MemPlace}(w:prog.underlying t=some (.slice e))(h:QX enc prog W m t r=some y):∃v,r=[v]:=by
 rcases DataW.trod_slice w h with⟨b,-⟩|⟨_,_,_,_,_,_,_,b,-⟩
 .exact⟨_,b⟩
 .exact⟨_,b⟩
def dN{m:Nat}{r:List Value}{y:DataW H×List MemPlace}(h:QX enc prog W m 116 r=some y)(e:Sz prog 116 y.1):∃a:Ap,Pd (Qa.all W) a r/\a.nm.size<2^50:=by
 obtain⟨fs,Q,b⟩:=Ha BM;obtain⟨K,m',z⟩:=Hl Q h e;rw[IP]at K;obtain⟨c0,c1,c2,c3,rfl⟩:=UU K;obtain⟨y0,E,z0⟩:=Zs (i:=0) (ft:=9) (off:=0) z (b 0 _ _ rfl) Th;obtain⟨y1,F,z1⟩:=Zs (i:=1) (ft:=112) (off:=1) z (b 1 _ _ rfl) BD;obtain⟨y2,G,z2⟩:=Zs (i:=2) (ft:=113) (off:=2) z (b 2 _ _ rfl) BE;obtain⟨y3,I,z3⟩:=Zs (i:=3) (ft:=114) (off:=3) z (b 3 _ _ rfl) BF;simp only[drop_zero,drop_succ_cons,take_succ_cons,take_zero]at E F G I;obtain⟨s,B,P⟩:=Dq E z0;obtain⟨S,pl,pc,ps,rfl,T,U⟩:=XI (R:=λ(s:Int×Int)vs=>vs=[.int .i64 s.1,.int .i64 s.2]) gL IS D1 BB F z1 λ m r y w e=>Nz BP IS w e;obtain⟨ca,cl,cc,cs,rfl,V,X⟩:=XI (R:=Hn (Qa.all W)) gM IQ D1 Bz G z2 λ m r y w e=>sN w e;obtain⟨L,N,M,ds,rfl,Y,Z⟩:=XI (R:=Oq) gN IT D1 BC I z3 λ m r y w e=>dP w e;simp only[List.cons.injEq,and_true]at B;subst B;exact⟨⟨s,ps,cs,ds⟩,⟨S,pl,pc,ca,cl,cc,L,N,M,rfl,⟨T,U⟩,⟨V,X⟩,Y,Z⟩,P⟩
def dO{m:Nat}{r:List Value}{y:DataW H×List MemPlace}(h:QX enc prog W m 25 r=some y)(z:Sz prog 25 y.1):∃(h:CH)(c:QV),r=[.slice h.wa h.wl h.wc,.slice h.sa h.sl h.sc]/\X4 (Qa.all W) h c:=by
 obtain⟨T,I,b⟩:=Ha BR;obtain⟨G,U,F⟩:=Hl I h z;rw[Lw]at G;obtain⟨c0,S,rfl⟩:=Vw G;obtain⟨V,B,P⟩:=Zs (i:=0) (ft:=22) (off:=0) F (b 0 _ _ rfl) VZ;obtain⟨X,E,Q⟩:=Zs (i:=1) (ft:=23) (off:=1) F (b 1 _ _ rfl) px;simp only[drop_zero,drop_succ_cons,take_succ_cons,take_zero]at B E;obtain⟨wa,wl,wc,w,rfl,K,e⟩:=Oc B P;obtain⟨sa,sl,sc,s,rfl,M,N⟩:=XI (R:=λ(s:Int×Int)vs=>vs=[.int .i64 s.1,.int .i64 s.2]) kH IR D1 BA E Q λ m r y L z=>Nz BO IR L z;exact⟨⟨wa,wl,wc,sa,sl,sc⟩,⟨w,s⟩,rfl,K,M,e,N⟩
def Zvo{c:Array Value}(h:QX enc prog W fuel 31 c.toList=some x)(H:Sz prog 31 x.1):∃(h:FH)(cl:QV)(l:List Ap),Value.agg c=h.v/\HW (Qa.all W) h cl l:=by
 obtain⟨fs,hu,e⟩:=Ha pE;obtain⟨N,m',z⟩:=Hl hu h H;rw[pA]at N;obtain⟨y0,h0,z0⟩:=Zs (i:=0) (ft:=25) (off:=0) z (e 0 _ _ rfl) Lw;obtain⟨y1,h1,z1⟩:=Zs (i:=1) (ft:=3) (off:=2) z (e 1 _ _ rfl) Z7;obtain⟨y2,h2,z2⟩:=Zs (i:=2) (ft:=28) (off:=3) z (e 2 _ _ rfl) G3;obtain⟨y3,h3,z3⟩:=Zs (i:=3) (ft:=28) (off:=5) z (e 3 _ _ rfl) G3;obtain⟨y4,h4,z4⟩:=Zs (i:=4) (ft:=28) (off:=7) z (e 4 _ _ rfl) G3;obtain⟨y5,h5,z5⟩:=Zs (i:=5) (ft:=28) (off:=9) z (e 5 _ _ rfl) G3;obtain⟨y6,h6,z6⟩:=Zs (i:=6) (ft:=28) (off:=11) z (e 6 _ _ rfl) G3;obtain⟨y7,h7,z7⟩:=Zs (i:=7) (ft:=3) (off:=13) z (e 7 _ _ rfl) Z7;obtain⟨y8,E,z8⟩:=Zs (i:=8) (ft:=29) (off:=14) z (e 8 _ _ rfl) pz;obtain⟨Y,cal,I,hc⟩:=dO h0 z0;obtain⟨n1,Z⟩:=WR W7 h1;obtain⟨S,e2⟩:=GZ h2 z2;obtain⟨T,e3⟩:=GZ h3 z3;obtain⟨U,e4⟩:=GZ h4 z4;obtain⟨V,e5⟩:=GZ h5 z5;obtain⟨X,e6⟩:=GZ h6 z6;obtain⟨n7,e7⟩:=WR W7 h7;obtain⟨v8,K⟩:=dK Mp E;rw[K]at E;obtain⟨aa,al,ac,l,rfl,Q,r2⟩:=XI (R:=λ(a:Ap)r=>Pd (Qa.all W) a r/\a.nm.size<2^50) Mp IP D1 By E z8 λ m r y hy H=>dN hy H;have F:∀s∈l,s.nm.size<2^50:=λ s G=>let ⟨_,h⟩:=Q.all s G;h.2
 have w:∀L:List Value,L.length=15->L=L.take 2++((L.drop 2).take 1++((L.drop 3).take 2++((L.drop 5).take 2++((L.drop 7).take 2++((L.drop 9).take 2++((L.drop 11).take 2++((L.drop 13).take 1++(L.drop 14).take 1))))))):=by
  intro L hL;have key:∀(M:List Value)(a b:Nat),M.drop a=(M.drop a).take b++M.drop (a+b):=λ M a b=>by rw[<- drop_drop,take_append_drop]
  have P:=key L 0 2;have k1:=key L 2 1;have k2:=key L 3 2;have k3:=key L 5 2;have k4:=key L 7 2;have k5:=key L 9 2;have k6:=key L 11 2;have k7:=key L 13 1;have k8:(L.drop 14).take 1=L.drop 14:=take_of_length_le (by rw[length_drop];omega);rw[drop_zero]at P;rw[k8,<- k7,<- k6,<- k5,<- k4,<- k3,<- k2,<- k1];exact P
 have B:=w c.toList N;rw[drop_zero]at I;rw[I,Z,e2,e3,e4,e5,e6,e7,K]at B;refine⟨⟨Y,λ i=>[0,0,n1,S.1,S.2,T.1,T.2,U.1,U.2,V.1,V.2,X.1,X.2,n7].getD i 0,aa,al,ac⟩,cal,l,?_,hc,Q.le (.refl _) λ _ _ h=>h.1,r2,λ s G=>Nat.lt_of_lt_of_le (F s G) D1⟩;rw[<- Array.toArray_toList (xs:=c),B];rfl
end
end Go.Proofs
end

