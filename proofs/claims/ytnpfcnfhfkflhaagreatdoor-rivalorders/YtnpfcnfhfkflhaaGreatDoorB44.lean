/- Lemmas. No conditions. -/
import Derived.Test.YtnpfcnfhfkflhaaGreatDoorTie
import Derived.Test.YtnpfcnfhfkflhaaGreatDoorCards
import Derived.LaidMore
import Derived.Test.YtnpfcnfhfkflhaaGreatDoorB43
set_option linter.all false
open List
open Go.Proofs.Tryz (prog)
set_option maxRecDepth 100000
noncomputable section
namespace Go.TM
theorem Q5.all{T:Type}{U:Qa T}{a:Option Addr}{len n:Nat}{α:Type}{l:List α}{R:α->List Value->Prop}(h:Q5 U a len n l R):∀x∈l,∃r,R x r:=λ x f=>by
 obtain⟨i,b⟩:=getElem?_of_mem f;obtain⟨_,r,_,_,e,_⟩:=h.2 i x b;exact⟨r,e⟩
theorem Fx{α:Type}{l:List α}(h:l.length=2):∃a b,l=[a,b]:=by
 cases l with
 |nil=>simp at h
 |cons a r=>obtain⟨b,rfl⟩:=length_eq_one_iff.1 (by simpa using h);simp_all
theorem Sp{α:Type}{l:List α}(h:l.length=3):∃a b c,l=[a,b,c]:=by
 cases l with
 |nil=>simp at h
 |cons a r=>simp_all[Fx]
theorem pS{α:Type}{l:List α}(h:l.length=4):∃a b c d,l=[a,b,c,d]:=by
 cases l with
 |nil=>simp at h
 |cons a r=>simp_all[Sp]
theorem Q5.ints{T:Type}{U:Qa T}{a:Option Addr}{len:Nat}{l:List Int}(h:Q5 U a len 1 l λ n vs=>vs=[.int .i64 n]):Z5 U a len l:=by
 refine⟨h.1,λ i x e=>?_⟩;obtain⟨f,vs,w,z,rfl,-,b⟩:=h.2 i x e;have:=b 0 _ rfl;grind[Addr.add]
theorem EO{H:Type}{enc:TypeId×Value->H}{P:Program}{W:World}{t e:TypeId}{fuel:Nat}{x:DataW H×List MemPlace}{a:Option Addr}{len cap:Nat}
  (B:P.underlying t=some (.slice e)) (h:JZ enc P W fuel t [.slice a len cap]=some x):len<=cap:=by
 rcases DataW.trod_slice B h with⟨w,E⟩|⟨a',z,f,b,rest,m,_,w,E,F⟩
 .simp only[List.cons.injEq,and_true,Value.slice.injEq]at w;omega
 simp_all
end Go.TM
namespace Go.Proofs
open Go.TM Go.ChangeShapes Go.WideShapes Go.RowKit
section
variable{H:Type}{enc:TypeId×Value->H}{W:World}{fuel:Nat}{x:DataW H×List MemPlace}{v:Value}{cs:List Value}
theorem Dt{k:IntKind}{t:TypeId}(b:prog.underlying t=some (.int k))(h:JZ enc prog W fuel t cs=some x):∃n,cs=[.int k n]:=by
 grind[DataW.trod_int]
theorem D5:prog.underlying 3=some (.int .i64):=K1
theorem Zpl:prog.underlying 4=some .bool:=K1
theorem Zpm:prog.underlying 5=some (.int .u8):=K1
theorem oR:prog.underlying 9=some .string:=K1
theorem Eo:prog.underlying 22=some (.slice 9):=K1
theorem FO:prog.underlying 23=some (.slice 49):=K1
theorem If:prog.underlying 26=some (.slice 3):=K1
theorem qW:prog.underlying 47=some (.slice 26):=K1
def VY(P:Program)(t:TypeId)(l:List (TypeId×Nat)):Bool:=match P.underlying t with|some (.struct b)=>(b.toList.map λ f=>(f.type,f.offset))==l|_=>false
theorem I6{P:Program}{t:TypeId}{l:List (TypeId×Nat)}(h:VY P t l=true):∃b,P.underlying t=some (.struct b)/\∀(i:Nat)(ft off:Nat),l[i]?=some (ft,off)->(b[i]?).map (λ f=>(f.type,f.offset))=some (ft,off):=by
 unfold VY at h;grind
theorem C9:VY prog 25 [(22,0),(23,1)]=true:=K1
theorem Cd:VY prog 49 [(9,0),(3,1),(47,2),(26,3)]=true:=K1
theorem Ll:prog.cellsOf 3=1:=K1
theorem LW:prog.cellsOf 9=1:=K1
theorem vD:prog.cellsOf 22=1:=K1
theorem oq:prog.cellsOf 23=1:=K1
theorem AP:prog.cellsOf 25=2:=K1
theorem IL:prog.cellsOf 26=1:=K1
theorem gh:prog.cellsOf 47=1:=K1
theorem Fq:prog.cellsOf 49=4:=K1
theorem kx:0<prog.bytesOf 3:=of_decide_eq_true K1
theorem Cp:0<prog.bytesOf 9:=of_decide_eq_true K1
theorem ko:0<prog.bytesOf 26:=of_decide_eq_true K1
theorem qr:0<prog.bytesOf 49:=of_decide_eq_true K1
theorem Sz.str50{P:Program}{t:TypeId}{l:List UInt8}(h:Sz P t (.lit (.string l):DataW H)):l.length<2^50:=by
 have:=h _ (by simp[DataW.weights];rfl);grind[reachBytes,decide]
theorem DA(h:JZ enc prog W fuel 26 [v]=some x)(z:Sz prog 26 x.1):∃a len cap l,v=.slice a len cap/\Z5 (Qa.all W) a len l/\len<2^60:=by
 obtain⟨a,len,cap,l,b,e,f⟩:=Yd (R:=λ(n:Int)vs=>vs=[.int .i64 n]) If Ll D1 kx h z λ m r y w _=>Dt D5 w;exact⟨a,len,cap,l,b,e.ints,f⟩
theorem DO{m:Nat}{r:List Value}{y:DataW H×List MemPlace}(h:JZ enc prog W m 9 r=some y)(b:Sz prog 9 y.1):∃s:ByteArray,r=[.string s]/\s.size<2^50:=by
 obtain⟨s,e,rfl,-⟩:=DataW.trod_string oR h;have:=Sz.str50 b;simp_all
theorem Ct(h:JZ enc prog W fuel 47 [v]=some x)(w:Sz prog 47 x.1):∃a len cap E,v=.slice a len cap/\J3 (Qa.all W) a len E/\len<2^60:=
 Yd (R:=λ(l:List Int)vs=>∃a' b e,vs=[.slice a' b e]/\Z5 (Qa.all W) a' b l/\b<2^60) qW IL D1 ko h w λ m r y B w=>by
  have z:r.length=1:=by
   rcases DataW.trod_slice If B with⟨f,-⟩|⟨_,_,_,_,_,_,_,f,-⟩ <;> rw[f] <;> rfl
  obtain⟨c0,rfl⟩:=length_eq_one_iff.1 z;grind[DA]
theorem kD{m:Nat}{r:List Value}{y:DataW H×List MemPlace}(h:JZ enc prog W m 49 r=some y)(U:Sz prog 49 y.1) :
  ∃c:Cs,HT (Qa.all W) c r/\c.nm.size<2^50:=by
 obtain⟨fs,T,b⟩:=I6 Cd;obtain⟨K,m',e⟩:=FX T h U;rw[Fq]at K;obtain⟨c0,Z,c2,c3,rfl⟩:=pS K;obtain⟨y0,E,V⟩:=GM (i:=0) (ft:=9) (off:=0) e (b 0 _ _ rfl) LW;obtain⟨y1,F,z1⟩:=GM (i:=1) (ft:=3) (off:=1) e (b 1 _ _ rfl) Ll;obtain⟨y2,G,X⟩:=GM (i:=2) (ft:=47) (off:=2) e (b 2 _ _ rfl) gh;obtain⟨y3,I,Y⟩:=GM (i:=3) (ft:=26) (off:=3) e (b 3 _ _ rfl) IL;simp only[drop_zero,drop_succ_cons,take_succ_cons,take_zero]at E F G I;obtain⟨s,z,S⟩:=DO E V;obtain⟨n,B⟩:=Dt D5 F;obtain⟨ga,gl,gc,gs,M,Q,w⟩:=Ct G X;obtain⟨L,al,ac,af,N,P,f⟩:=DA I Y;simp only[List.cons.injEq,and_true]at z B;subst z B M N;exact⟨⟨s,n,gs,af⟩,⟨ga,gl,gc,L,al,ac,rfl,Q,w,P,f⟩,S⟩
theorem Zpn{c:Array Value}(h:JZ enc prog W fuel 25 c.toList=some x)(B:Sz prog 25 x.1) :
  ∃(h:BH)(b:Bk),Value.agg c=h.v/\Zq (Qa.all W) h b/\(∀s∈b.rs,s.size<2^50)/\(∀c∈b.cs,c.nm.size<2^50)/\h.rl<=h.rc/\h.cl<=h.cc:=by
 obtain⟨V,Q,z⟩:=I6 C9;obtain⟨L,X,H⟩:=FX Q h B;rw[AP]at L;obtain⟨c0,E,K⟩:=Fx L;rw[K]at H;obtain⟨Y,F,T⟩:=GM (i:=0) (ft:=22) (off:=0) H (z 0 _ _ rfl) vD;obtain⟨Z,G,U⟩:=GM (i:=1) (ft:=23) (off:=1) H (z 1 _ _ rfl) oq;simp only[drop_zero,drop_succ_cons,take_succ_cons,take_zero]at F G;obtain⟨ra,rl,rc,rs,rfl,N,S⟩:=Yd (R:=λ(s:ByteArray)r=>r=[.string s]/\s.size<2^50) Eo LW D1 Cp F T λ m r y I B=>DO I B;obtain⟨ca,cl,cc,f,rfl,E,P⟩:=Yd (R:=λ(c:Cs)r=>HT (Qa.all W) c r/\c.nm.size<2^50) FO Fq D1 qr G U λ m r y I B=>kD I B;have M:∀s∈rs,s.size<2^50:=λ s e=>let ⟨_,h⟩:=N.all s e;h.2;have w:∀c∈f,c.nm.size<2^50:=λ s e=>let ⟨_,h⟩:=E.all s e;h.2;refine⟨⟨ra,rl,rc,ca,cl,cc⟩,⟨rs,f⟩,by rw[<- Array.toArray_toList (xs:=c),K],⟨N.le (.refl _) λ _ _ h=>h.1,E.le (.refl _) λ _ _ h=>h.1,S,P,λ s e=>Nat.lt_of_lt_of_le (M s e) D1,λ s e=>Nat.lt_of_lt_of_le (w s e) D1⟩,M,w,EO Eo F,EO FO G⟩
end
def M2:List UInt8:=[40,116,111,117,99,104,109,97,114,107,47,114,105,118,97,108,46,98,111,111,107,41,46,114,105,103,104,116,115]
def Mj:List UInt8:=[40,116,111,117,99,104,109,97,114,107,47,114,105,118,97,108,46,98,111,111,107,41,46,99,97,115,101,115]
def Le:List UInt8:=[40,116,111,117,99,104,109,97,114,107,47,114,105,118,97,108,46,98,111,111,107,41,46,108,111,111,112,115]
abbrev E9:List (String×DataW Unit):=YtnpfcnfhfkflhaaGreatDoor.Rows.rivalOrdersRow.laid
noncomputable def Tryz.chkN:String:=(YtnpfcnfhfkflhaaGreatDoor.Rows.rivalOrdersRow.named[0]?).getD Tryz.f20.name
theorem jo:((range prog.funcs.size).filter λ f=>(prog.funcs[f]?).any (·.name.toUTF8.data.toList==M2))=[275]:=K1
theorem jK:((range prog.funcs.size).filter λ f=>(prog.funcs[f]?).any (·.name.toUTF8.data.toList==Mj))=[276]:=K1
theorem qS:((range prog.funcs.size).filter λ f=>(prog.funcs[f]?).any (·.name.toUTF8.data.toList==Le))=[101]:=K1
theorem DP:prog.globalNamed Tryz.chkN=some 0:=K1
theorem gE:(prog.globals[0]?).map (·.type)=some 100:=K1
theorem gj:prog.cellsOf 99=1:=K1
theorem RI:prog.cellsOf 100=3:=K1
def O7(P:Program)(t:TypeId):Bool:=match P.underlying t with|some (.func _ _ _)=>true|_=>false
theorem CX{P:Program}{t:TypeId}(h:O7 P t=true):∃b rs e,P.underlying t=some (.func b rs e):=by
 grind[O7]
theorem pT:O7 prog 99=true:=K1
theorem Zm9{W:World}(h:laidMetH prog E9 W):WA (Qa.all W):=by
 obtain⟨g,t,cs,fuel,p,U,V,w,T⟩:=h.funcs (n:=Tryz.chkN) (mem_cons_self ..);obtain rfl:=Option.some.inj (DP.symm.trans U);obtain rfl:=Option.some.inj (gE.symm.trans V);have B:DataW.trod (funcToken prog) prog W 0 (λ _=>true) true fuel 100 cs.toList=some (.agg [.held M2,.held Mj,.held Le],p):=T;obtain⟨xs,m,-,P,N,F,f⟩:=DataW.trod_array Kp B;rw[RI]at N;obtain⟨X,Y,Z,e⟩:=Sp N;obtain⟨x0,x1,x2,rfl⟩:=Sp F;simp only[Prod.mk.injEq,DataW.agg.injEq,map_cons,map_nil,List.cons.injEq,and_true]at P;obtain⟨⟨G,H,I⟩,-⟩:=P;obtain⟨ps,rs,va,E⟩:=CX pT;have K:=f 0 O1;have L:=f 1 O1;have M:=f 2 O1;rw[e,gj]at K L M;obtain⟨q0,r0⟩:=x0;obtain⟨q1,r1⟩:=x1;obtain⟨q2,r2⟩:=x2;simp only at G H I;subst G H I;have f0:X=.func (.func 275) #[] #[]:=Go.func_of_trod (b:=40) (f0:=275) E jo K;have Q:Y=.func (.func 276) #[] #[]:=Go.func_of_trod (b:=40) (f0:=276) E jK L;have S:Z=.func (.func 101) #[] #[]:=Go.func_of_trod (b:=40) (f0:=101) E qS M
 have z:cs=YB:=by
  apply Array.ext';rw[e,f0,Q,S];rfl
 unfold World.var? at w;rw[DP]at w;simp only[Option.bind_some]at w;split at w
 .rename_i c t fr hb;cases w;exact⟨t,fr,by rw[<- z];exact hb⟩
 .cases w
theorem Zk6(os:Os)(args:Array Value):laidMetH prog E9 ((World.doorLaid prog 200 os).forCall (λ _ _=>0) ⟨#[],args,[]⟩).memory:=
 laidMetH_of_parts3 (fuel:=8) (laidMet_of_run' 8 K1 K1) K1 K1
end Go.Proofs
end

