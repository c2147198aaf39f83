/- Lemmas. No conditions. -/
import Derived.Test.YtajkaognaiglhaaGreatDoorTie
import Derived.Test.YtajkaognaiglhaaGreatDoorCards
import Derived.LaidMore
import Derived.Test.YtajkaognaiglhaaGreatDoorB29
set_option linter.all false
open List
open Go.Proofs.Tryz (prog)
set_option maxRecDepth 100000
noncomputable section
namespace Go.TM
def Zd.all{T:Type}{U:Qa T}{a:Option Addr}{len n:Nat}{α:Type}{l:List α}{R:α->List Value->Prop}(h:Zd U a len n l R):∀x∈l,∃r,R x r:=λ x w=>by
 obtain⟨i,e⟩:=getElem?_of_mem w;obtain⟨_,r,_,_,f,_⟩:=h.2 i x e;exact⟨r,f⟩
def ON{α:Type}{l:List α}(h:l.length=2):∃a b,l=[a,b]:=by
 cases l with
 |nil=>simp at h
 |cons a r=>obtain⟨b,rfl⟩:=length_eq_one_iff.1 (by simpa using h);exact⟨a,b,rfl⟩
def Y7{α:Type}{l:List α}(h:l.length=3):∃a b c,l=[a,b,c]:=by
 cases l with
 |nil=>simp at h
 |cons a r=>obtain⟨b,c,rfl⟩:=ON (l:=r) (by simpa using h);exact⟨a,b,c,rfl⟩
def Mo{α:Type}{l:List α}(h:l.length=4):∃a b c d,l=[a,b,c,d]:=by
 cases l with
 |nil=>simp at h
 |cons a r=>obtain⟨b,c,d,rfl⟩:=Y7 (l:=r) (by simpa using h);exact⟨a,b,c,d,rfl⟩
def Zd.ints{T:Type}{U:Qa T}{a:Option Addr}{len:Nat}{l:List Int}(h:Zd U a len 1 l λ n vs=>vs=[.int .i64 n]):Z8 U a len l:=by
 refine⟨h.1,λ i x B=>?_⟩;obtain⟨e,vs,f,z,rfl,-,w⟩:=h.2 i x B;have:=w 0 _ rfl;exact⟨e,f,z,by simpa[Addr.add]using this⟩
def TB{H:Type}{enc:TypeId×Value->H}{P:Program}{W:World}{t e:TypeId}{fuel:Nat}{x:DataW H×List MemPlace}{a:Option Addr}{len cap:Nat}
  (E:P.underlying t=some (.slice e)) (h:Z_ enc P W fuel t [.slice a len cap]=some x):len<=cap:=by
 rcases DataW.trod_slice E h with⟨w,F⟩|⟨a',B,z,f,rest,m,_,w,F,G⟩
 .simp only[List.cons.injEq,and_true,Value.slice.injEq]at w;omega
 .simp only[List.cons.injEq,and_true,Value.slice.injEq]at w;omega
end Go.TM
namespace Go.Proofs
open Go.TM Go.ChangeShapes Go.WideShapes Go.RowKit
section
variable{H:Type}{enc:TypeId×Value->H}{W:World}{fuel:Nat}{x:DataW H×List MemPlace}{v:Value}{cs:List Value}
def TJ{k:IntKind}{t:TypeId}(e:prog.underlying t=some (.int k))(h:Z_ enc prog W fuel t cs=some x):∃n,cs=[.int k n]:=by
 obtain⟨n,h,_⟩:=DataW.trod_int e h;exact⟨n,h⟩
def OR:prog.underlying 3=some (.int .i64):=K1
def Zdp:prog.underlying 4=some .bool:=K1
def MX:prog.underlying 5=some (.int .u8):=K1
def MY:prog.underlying 9=some .string:=K1
def E7:prog.underlying 22=some (.slice 9):=K1
def Ec:prog.underlying 23=some (.slice 46):=K1
def Ed:prog.underlying 44=some (.slice 3):=K1
def LV:prog.underlying 37=some (.slice 140):=K1
def LW:prog.underlying 43=some (.slice 44):=K1
def Fp:prog.underlying 140=some (.int .u16):=K1
def K4(P:Program)(t:TypeId)(l:List (TypeId×Nat)):Bool:=match P.underlying t with|some (.struct e)=>(e.toList.map λ f=>(f.type,f.offset))==l|_=>false
def Dn{P:Program}{t:TypeId}{l:List (TypeId×Nat)}(h:K4 P t l=true):∃e,P.underlying t=some (.struct e)/\∀(i:Nat)(ft off:Nat),l[i]?=some (ft,off)->(e[i]?).map (λ f=>(f.type,f.offset))=some (ft,off):=by
 unfold K4 at h;split at h
 .rename_i e hu;refine⟨e,hu,λ i ft off w=>?_⟩;rw[<- eq_of_beq h,getElem?_map,Array.getElem?_toList]at w;exact w
 .cases h
def FO:K4 prog 25 [(22,0),(23,1)]=true:=K1
def FP:K4 prog 46 [(9,0),(3,1),(43,2),(44,3)]=true:=K1
def SH:prog.cellsOf 3=1:=K1
def SI:prog.cellsOf 9=1:=K1
def RN:prog.cellsOf 22=1:=K1
def RO:prog.cellsOf 23=1:=K1
def RP:prog.cellsOf 25=2:=K1
theorem So:prog.cellsOf 44=1:=K1
def RQ:prog.cellsOf 43=1:=K1
def Sp:prog.cellsOf 46=4:=K1
def Rd:prog.cellsOf 140=1:=K1
def AF:0<prog.bytesOf 3:=of_decide_eq_true K1
def AG:0<prog.bytesOf 9:=of_decide_eq_true K1
def RL:0<prog.bytesOf 44:=of_decide_eq_true K1
def RM:0<prog.bytesOf 46:=of_decide_eq_true K1
def R5:0<prog.bytesOf 140:=of_decide_eq_true K1
def Sz.str50{P:Program}{t:TypeId}{l:List UInt8}(h:Sz P t (.lit (.string l):DataW H)):l.length<2^50:=by
 have:=h _ (by simp[DataW.weights];rfl);have:=(show reachBytes<2^50 by decide);omega
def Tm(h:Z_ enc prog W fuel 44 [v]=some x)(B:Sz prog 44 x.1):∃a len cap l,v=.slice a len cap/\Z8 (Qa.all W) a len l/\len<2^60:=by
 obtain⟨a,len,cap,l,e,f,w⟩:=Pv (R:=λ(n:Int)vs=>vs=[.int .i64 n]) Ed SH D1 AF h B λ m r y z _=>TJ OR z;exact⟨a,len,cap,l,e,f.ints,w⟩
def TL{m:Nat}{r:List Value}{y:DataW H×List MemPlace}(h:Z_ enc prog W m 9 r=some y)(f:Sz prog 9 y.1):∃s:ByteArray,r=[.string s]/\s.size<2^50:=by
 obtain⟨s,e,rfl,-⟩:=DataW.trod_string MY h;have:=Sz.str50 f;rw[Array.length_toList]at this;exact⟨s,e,this⟩
def MO(h:Z_ enc prog W fuel 43 [v]=some x)(w:Sz prog 43 x.1):∃a len cap H,v=.slice a len cap/\Wt (Qa.all W) a len H/\len<2^60:=
 Pv (R:=λ(l:List Int)vs=>∃a' e f,vs=[.slice a' e f]/\Z8 (Qa.all W) a' e l/\e<2^60) LW So D1 RL h w λ m r y B w=>by
  have G:r.length=1:=by
   rcases DataW.trod_slice Ed B with⟨z,-⟩|⟨_,_,_,_,_,_,_,z,-⟩ <;> rw[z] <;> rfl
  obtain⟨c0,rfl⟩:=length_eq_one_iff.1 G;obtain⟨a,len,cap,l,rfl,E,F⟩:=Tm B w;exact⟨l,a,len,cap,rfl,E,F⟩
def qd{m:Nat}{r:List Value}{y:DataW H×List MemPlace}(h:Z_ enc prog W m 46 r=some y)(V:Sz prog 46 y.1) :
  ∃c:Cs,HR (Qa.all W) c r/\c.nm.size<2^50:=by
 obtain⟨fs,U,e⟩:=Dn FP;obtain⟨L,m',f⟩:=EJ U h V;rw[Sp]at L;obtain⟨c0,c1,c2,c3,rfl⟩:=Mo L;obtain⟨y0,F,X⟩:=Gz (i:=0) (ft:=9) (off:=0) f (e 0 _ _ rfl) SI;obtain⟨y1,G,z1⟩:=Gz (i:=1) (ft:=3) (off:=1) f (e 1 _ _ rfl) SH;obtain⟨y2,I,Y⟩:=Gz (i:=2) (ft:=43) (off:=2) f (e 2 _ _ rfl) RQ;obtain⟨y3,K,Z⟩:=Gz (i:=3) (ft:=44) (off:=3) f (e 3 _ _ rfl) So;simp only[drop_zero,drop_succ_cons,take_succ_cons,take_zero]at F G I K;obtain⟨s,B,T⟩:=TL F X;obtain⟨n,E⟩:=TJ OR G;obtain⟨ga,gl,gc,gs,N,S,z⟩:=MO I Y;obtain⟨M,al,ac,af,P,Q,w⟩:=Tm K Z;simp only[List.cons.injEq,and_true]at B E;subst B E N P;exact⟨⟨s,n,gs,af⟩,⟨ga,gl,gc,M,al,ac,rfl,S,z,Q,w⟩,T⟩
def Zdr{c:Array Value}(h:Z_ enc prog W fuel 25 c.toList=some x)(B:Sz prog 25 x.1) :
  ∃(h:BH)(b:Bk),Value.agg c=h.v/\Zt (Qa.all W) h b/\(∀s∈b.rs,s.size<2^50)/\(∀c∈b.cs,c.nm.size<2^50)/\h.rl<=h.rc/\h.cl<=h.cc:=by
 obtain⟨V,Q,z⟩:=Dn FO;obtain⟨L,X,H⟩:=EJ Q h B;rw[RP]at L;obtain⟨c0,E,K⟩:=ON L;rw[K]at H;obtain⟨Y,F,T⟩:=Gz (i:=0) (ft:=22) (off:=0) H (z 0 _ _ rfl) RN;obtain⟨Z,G,U⟩:=Gz (i:=1) (ft:=23) (off:=1) H (z 1 _ _ rfl) RO;simp only[drop_zero,drop_succ_cons,take_succ_cons,take_zero]at F G;obtain⟨ra,rl,rc,rs,rfl,N,S⟩:=Pv (R:=λ(s:ByteArray)r=>r=[.string s]/\s.size<2^50) E7 SI D1 AG F T λ m r y I B=>TL I B;obtain⟨ca,cl,cc,f,rfl,E,P⟩:=Pv (R:=λ(c:Cs)r=>HR (Qa.all W) c r/\c.nm.size<2^50) Ec Sp D1 RM G U λ m r y I B=>qd I B;have M:∀s∈rs,s.size<2^50:=λ s e=>let ⟨_,h⟩:=N.all s e;h.2;have w:∀c∈f,c.nm.size<2^50:=λ s e=>let ⟨_,h⟩:=E.all s e;h.2;refine⟨⟨ra,rl,rc,ca,cl,cc⟩,⟨rs,f⟩,by rw[<- Array.toArray_toList (xs:=c),K],⟨N.le (.refl _) λ _ _ h=>h.1,E.le (.refl _) λ _ _ h=>h.1,S,P,λ s e=>Nat.lt_of_lt_of_le (M s e) D1,λ s e=>Nat.lt_of_lt_of_le (w s e) D1⟩,M,w,TB E7 F,TB Ec G⟩
def TK{k:IntKind}{t:TypeId}{m:Nat}(B:prog.underlying t=some (.int k))(f:k.min=0)(z:k.max=(m:Int))(h:Z_ enc prog W fuel t cs=some x):∃u:Nat,cs=[.int k u]/\u<=m:=by
 obtain⟨n,w,-,e⟩:=DataW.trod_int B h;simp only[Lit.wf,Bool.and_eq_true,decide_eq_true_eq]at e;rw[f,z]at e;obtain⟨u,rfl⟩:=Int.eq_ofNat_of_zero_le e.1;exact⟨u,w,O1⟩
def Zd5(h:Z_ enc prog W fuel 5 [v]=some x):∃u:Nat,v=.int .u8 u/\u<256:=by
 obtain⟨u,e,f⟩:=TK (m:=255) MX D1 D1 h;exact⟨u,by simpa using e,O1⟩
def zf{T:Type}(U:Qa T)(a:Option Addr)(len:Nat)(l:List Nat):Prop:=Zd U a len 1 l λ n vs=>vs=[.int .u16 (n:Int)]/\n<65536
def Zds(h:Z_ enc prog W fuel 37 [v]=some x)(B:Sz prog 37 x.1):∃a len cap l,v=.slice a len cap/\zf (Qa.all W) a len l/\len<2^60:=by
 obtain⟨a,len,cap,l,e,f,w⟩:=Pv (R:=λ(n:Nat)vs=>vs=[.int .u16 (n:Int)]/\n<65536) LV Rd D1 R5 h B λ m r y z _=>by
  obtain⟨u,e,f⟩:=TK (m:=65535) Fp D1 D1 z;exact⟨u,e,O1⟩
 exact⟨a,len,cap,l,e,f,w⟩
end
def UA:List UInt8:=[40,116,111,117,99,104,109,97,114,107,47,114,105,118,97,108,46,98,111,111,107,41,46,114,105,103,104,116,115]
def UB:List UInt8:=[40,116,111,117,99,104,109,97,114,107,47,114,105,118,97,108,46,98,111,111,107,41,46,99,97,115,101,115]
def Uz:List UInt8:=[40,116,111,117,99,104,109,97,114,107,47,114,105,118,97,108,46,98,111,111,107,41,46,108,111,111,112,115]
abbrev D9:List (String×DataW Unit):=YtajkaognaiglhaaGreatDoor.Rows.rivalHoldsRow.laid
def UK:String:=(YtajkaognaiglhaaGreatDoor.Rows.rivalHoldsRow.named[0]?).getD Tryz.f6.name
def Bg:((range prog.funcs.size).filter λ f=>(prog.funcs[f]?).any (·.name.toUTF8.data.toList==UA))=[173]:=K1
def Bh:((range prog.funcs.size).filter λ f=>(prog.funcs[f]?).any (·.name.toUTF8.data.toList==UB))=[174]:=K1
def Bf:((range prog.funcs.size).filter λ f=>(prog.funcs[f]?).any (·.name.toUTF8.data.toList==Uz))=[41]:=K1
def DQ:prog.globalNamed UK=some 0:=K1
def L5:(prog.globals[0]?).map (·.type)=some 133:=K1
def RR:prog.cellsOf 132=1:=K1
def R7:prog.cellsOf 133=3:=K1
def OF(P:Program)(t:TypeId):Bool:=match P.underlying t with|some (.func _ _ _)=>true|_=>false
def qV{P:Program}{t:TypeId}(h:OF P t=true):∃ps rs e,P.underlying t=some (.func ps rs e):=by
 unfold OF at h;split at h
 .rename_i ps rs e hu;exact⟨ps,rs,e,hu⟩
 .cases h
def FQ:OF prog 132=true:=K1
def Zaz{W:World}(h:laidMetH prog D9 W):JT (Qa.all W):=by
 obtain⟨g,t,cs,fuel,p,U,V,w,T⟩:=h.funcs (n:=UK) (mem_cons_self ..);obtain rfl:=Option.some.inj (DQ.symm.trans U);obtain rfl:=Option.some.inj (L5.symm.trans V);have B:DataW.trod (funcToken prog) prog W 0 (λ _=>true) true fuel 133 cs.toList=some (.agg [.held UA,.held UB,.held Uz],p):=T;obtain⟨xs,m,-,P,N,F,f⟩:=DataW.trod_array VE B;rw[R7]at N;obtain⟨X,Y,Z,e⟩:=Y7 N;obtain⟨x0,x1,x2,rfl⟩:=Y7 F;simp only[Prod.mk.injEq,DataW.agg.injEq,map_cons,map_nil,List.cons.injEq,and_true]at P;obtain⟨⟨G,H,I⟩,-⟩:=P;obtain⟨ps,rs,va,E⟩:=qV FQ;have K:=f 0 O1;have L:=f 1 O1;have M:=f 2 O1;rw[e,RR]at K L M;obtain⟨q0,r0⟩:=x0;obtain⟨q1,r1⟩:=x1;obtain⟨q2,r2⟩:=x2;simp only at G H I;subst G H I;have f0:X=.func (.func 173) #[] #[]:=Go.func_of_trod (b:=40) (f0:=173) E Bg K;have Q:Y=.func (.func 174) #[] #[]:=Go.func_of_trod (b:=40) (f0:=174) E Bh L;have S:Z=.func (.func 41) #[] #[]:=Go.func_of_trod (b:=40) (f0:=41) E Bf M
 have z:cs=Kk:=by
  apply Array.ext';rw[e,f0,Q,S];rfl
 unfold World.var? at w;rw[DQ]at w;simp only[Option.bind_some]at w;split at w
 .rename_i c t fr hb;cases w;exact⟨t,fr,by rw[<- z];exact hb⟩
 .cases w
def Q8k(os:Os)(args:Array Value):laidMetH prog D9 ((World.doorLaid prog 200 os).forCall (λ _ _=>0) ⟨#[],args,[]⟩).memory:=
 laidMetH_of_parts3 (fuel:=8) (laidMet_of_run' 8 K1 K1) K1 K1
end Go.Proofs
end

