/- Lemmas. No conditions. -/
import Derived.Test.YtcakpkianonbkaaGreatDoorTie
import Derived.Test.YtcakpkianonbkaaGreatDoorCards
import Derived.LaidMore
import Derived.Test.YtcakpkianonbkaaGreatDoorB45
set_option linter.all false
open List
open Go.Proofs.Tryz (prog)
set_option maxRecDepth 100000
noncomputable section
namespace Go.TM
def Qy.all{T:Type}{U:Qa T}{a:Option Addr}{len n:Nat}{α:Type}{l:List α}{R:α->List Value->Prop}(h:Qy U a len n l R):∀x∈l,∃r,R x r:=λ x w=>by
 obtain⟨i,b⟩:=getElem?_of_mem w;obtain⟨_,r,_,_,e,_⟩:=h.2 i x b;exact⟨r,e⟩
def Vw{α:Type}{l:List α}(h:l.length=2):∃a b,l=[a,b]:=by
 cases l with
 |nil=>simp at h
 |cons a r=>obtain⟨b,rfl⟩:=length_eq_one_iff.1 (by simpa using h);exact⟨a,b,rfl⟩
def KO{α:Type}{l:List α}(h:l.length=3):∃a b c,l=[a,b,c]:=by
 cases l with
 |nil=>simp at h
 |cons a r=>obtain⟨b,c,rfl⟩:=Vw (l:=r) (by simpa using h);exact⟨a,b,c,rfl⟩
def UU{α:Type}{l:List α}(h:l.length=4):∃a b c d,l=[a,b,c,d]:=by
 cases l with
 |nil=>simp at h
 |cons a r=>obtain⟨b,c,d,rfl⟩:=KO (l:=r) (by simpa using h);exact⟨a,b,c,d,rfl⟩
def Qy.ints{T:Type}{U:Qa T}{a:Option Addr}{len:Nat}{l:List Int}(h:Qy U a len 1 l λ n vs=>vs=[.int .i64 n]):Z0 U a len l:=by
 refine⟨h.1,λ i x B=>?_⟩;obtain⟨b,vs,e,z,rfl,-,w⟩:=h.2 i x B;have:=w 0 _ rfl;exact⟨b,e,z,by simpa[Addr.add]using this⟩
def Ny{H:Type}{enc:TypeId×Value->H}{P:Program}{W:World}{t e:TypeId}{fuel:Nat}{x:DataW H×List MemPlace}{a:Option Addr}{len cap:Nat}
  (E:P.underlying t=some (.slice e)) (h:QX enc P W fuel t [.slice a len cap]=some x):len<=cap:=by
 rcases DataW.trod_slice E h with⟨w,F⟩|⟨a',B,z,b,rest,m,_,w,F,G⟩
 .simp only[List.cons.injEq,and_true,Value.slice.injEq]at w;omega
 .simp only[List.cons.injEq,and_true,Value.slice.injEq]at w;omega
end Go.TM
namespace Go.Proofs
open Go.TM Go.ChangeShapes Go.WideShapes Go.RowKit
section
variable{H:Type}{enc:TypeId×Value->H}{W:World}{fuel:Nat}{x:DataW H×List MemPlace}{v:Value}{cs:List Value}
def WR{k:IntKind}{t:TypeId}(b:prog.underlying t=some (.int k))(h:QX enc prog W fuel t cs=some x):∃n,cs=[.int k n]:=by
 obtain⟨n,h,_⟩:=DataW.trod_int b h;exact⟨n,h⟩
def W7:prog.underlying 3=some (.int .i64):=K1
def Zvl:prog.underlying 4=some .bool:=K1
def Zvm:prog.underlying 5=some (.int .u8):=K1
def uF:prog.underlying 9=some .string:=K1
def EI:prog.underlying 40=some (.slice 9):=K1
def EJ:prog.underlying 41=some (.slice 48):=K1
def EK:prog.underlying 22=some (.slice 3):=K1
def sw:prog.underlying 33=some (.slice 32):=K1
def sx:prog.underlying 46=some (.slice 22):=K1
def kG:prog.underlying 32=some (.int .u16):=K1
def WZ(P:Program)(t:TypeId)(l:List (TypeId×Nat)):Bool:=match P.underlying t with|some (.struct b)=>(b.toList.map λ f=>(f.type,f.offset))==l|_=>false
def Ha{P:Program}{t:TypeId}{l:List (TypeId×Nat)}(h:WZ P t l=true):∃b,P.underlying t=some (.struct b)/\∀(i:Nat)(ft off:Nat),l[i]?=some (ft,off)->(b[i]?).map (λ f=>(f.type,f.offset))=some (ft,off):=by
 unfold WZ at h;split at h
 .rename_i b hu;refine⟨b,hu,λ i ft off e=>?_⟩;rw[<- eq_of_beq h,getElem?_map,Array.getElem?_toList]at e;exact e
 .cases h
def pC:WZ prog 43 [(40,0),(41,1)]=true:=K1
def pF:WZ prog 48 [(9,0),(3,1),(46,2),(22,3)]=true:=K1
def Z7:prog.cellsOf 3=1:=K1
def Th:prog.cellsOf 9=1:=K1
def Rd:prog.cellsOf 40=1:=K1
def Re:prog.cellsOf 41=1:=K1
def Rg:prog.cellsOf 43=2:=K1
def VZ:prog.cellsOf 22=1:=K1
def Rh:prog.cellsOf 46=1:=K1
def FZ:prog.cellsOf 48=4:=K1
def zs:prog.cellsOf 32=1:=K1
def Ae:0<prog.bytesOf 3:=of_decide_eq_true K1
def Af:0<prog.bytesOf 9:=of_decide_eq_true K1
def Rb:0<prog.bytesOf 22:=of_decide_eq_true K1
def Rc:0<prog.bytesOf 48:=of_decide_eq_true K1
def zG:0<prog.bytesOf 32:=of_decide_eq_true K1
def Sz.str50{P:Program}{t:TypeId}{l:List UInt8}(h:Sz P t (.lit (.string l):DataW H)):l.length<2^50:=by
 have:=h _ (by simp[DataW.weights];rfl);have:=(show reachBytes<2^50 by decide);omega
def Oc(h:QX enc prog W fuel 22 [v]=some x)(B:Sz prog 22 x.1):∃a len cap l,v=.slice a len cap/\Z0 (Qa.all W) a len l/\len<2^60:=by
 obtain⟨a,len,cap,l,b,e,w⟩:=XI (R:=λ(n:Int)vs=>vs=[.int .i64 n]) EK Z7 D1 Ae h B λ m r y z _=>WR W7 z;exact⟨a,len,cap,l,b,e.ints,w⟩
def Dq{m:Nat}{r:List Value}{y:DataW H×List MemPlace}(h:QX enc prog W m 9 r=some y)(e:Sz prog 9 y.1):∃s:ByteArray,r=[.string s]/\s.size<2^50:=by
 obtain⟨s,b,rfl,-⟩:=DataW.trod_string uF h;have:=Sz.str50 e;rw[Array.length_toList]at this;exact⟨s,b,this⟩
def sO(h:QX enc prog W fuel 46 [v]=some x)(w:Sz prog 46 x.1):∃a len cap H,v=.slice a len cap/\J5 (Qa.all W) a len H/\len<2^60:=
 XI (R:=λ(l:List Int)vs=>∃a' b e,vs=[.slice a' b e]/\Z0 (Qa.all W) a' b l/\b<2^60) sx VZ D1 Rb h w λ m r y B w=>by
  have G:r.length=1:=by
   rcases DataW.trod_slice EK B with⟨z,-⟩|⟨_,_,_,_,_,_,_,z,-⟩ <;> rw[z] <;> rfl
  obtain⟨c0,rfl⟩:=length_eq_one_iff.1 G;obtain⟨a,len,cap,l,rfl,E,F⟩:=Oc B w;exact⟨l,a,len,cap,rfl,E,F⟩
def dF{m:Nat}{r:List Value}{y:DataW H×List MemPlace}(h:QX enc prog W m 48 r=some y)(U:Sz prog 48 y.1) :
  ∃c:Cs,Gg (Qa.all W) c r/\c.nm.size<2^50:=by
 obtain⟨fs,T,b⟩:=Ha pF;obtain⟨L,m',e⟩:=Hl T h U;rw[FZ]at L;obtain⟨c0,Z,c2,c3,rfl⟩:=UU L;obtain⟨y0,F,V⟩:=Zs (i:=0) (ft:=9) (off:=0) e (b 0 _ _ rfl) Th;obtain⟨y1,G,z1⟩:=Zs (i:=1) (ft:=3) (off:=1) e (b 1 _ _ rfl) Z7;obtain⟨y2,I,X⟩:=Zs (i:=2) (ft:=46) (off:=2) e (b 2 _ _ rfl) Rh;obtain⟨y3,K,Y⟩:=Zs (i:=3) (ft:=22) (off:=3) e (b 3 _ _ rfl) VZ;simp only[drop_zero,drop_succ_cons,take_succ_cons,take_zero]at F G I K;obtain⟨s,B,S⟩:=Dq F V;obtain⟨n,E⟩:=WR W7 G;obtain⟨ga,gl,gc,gs,M,Q,z⟩:=sO I X;obtain⟨aa,al,ac,af,N,P,w⟩:=Oc K Y;simp only[List.cons.injEq,and_true]at B E;subst B E M N;exact⟨⟨s,n,gs,af⟩,⟨ga,gl,gc,aa,al,ac,rfl,Q,z,P,w⟩,S⟩
def Zvn{c:Array Value}(h:QX enc prog W fuel 43 c.toList=some x)(E:Sz prog 43 x.1) :
  ∃(h:BH)(b:Bk),Value.agg c=h.v/\Zp (Qa.all W) h b/\(∀s∈b.rs,s.size<2^50)/\(∀c∈b.cs,c.nm.size<2^50)/\h.rl<=h.rc/\h.cl<=h.cc:=by
 obtain⟨X,S,B⟩:=Ha pC;obtain⟨M,Y,I⟩:=Hl S h E;rw[Rg]at M;obtain⟨c0,F,L⟩:=Vw M;rw[L]at I;obtain⟨Z,G,U⟩:=Zs (i:=0) (ft:=40) (off:=0) I (B 0 _ _ rfl) Rd;obtain⟨y1,H,V⟩:=Zs (i:=1) (ft:=41) (off:=1) I (B 1 _ _ rfl) Re;simp only[drop_zero,drop_succ_cons,take_succ_cons,take_zero]at G H;obtain⟨ra,rl,rc,rs,rfl,P,T⟩:=XI (R:=λ(s:ByteArray)r=>r=[.string s]/\s.size<2^50) EI Th D1 Af G U λ m r y K E=>Dq K E;obtain⟨ca,cl,cc,w,rfl,F,Q⟩:=XI (R:=λ(c:Cs)r=>Gg (Qa.all W) c r/\c.nm.size<2^50) EJ FZ D1 Rc H V λ m r y K E=>dF K E;have N:∀s∈rs,s.size<2^50:=λ s e=>let ⟨_,h⟩:=P.all s e;h.2;have z:∀c∈w,c.nm.size<2^50:=λ s e=>let ⟨_,h⟩:=F.all s e;h.2;refine⟨⟨ra,rl,rc,ca,cl,cc⟩,⟨rs,w⟩,by rw[<- Array.toArray_toList (xs:=c),L],⟨P.le (.refl _) λ _ _ h=>h.1,F.le (.refl _) λ _ _ h=>h.1,T,Q,λ s e=>Nat.lt_of_lt_of_le (N s e) D1,λ s e=>Nat.lt_of_lt_of_le (z s e) D1⟩,N,z,Ny EI G,Ny EJ H⟩
def dQ{k:IntKind}{t:TypeId}{m:Nat}(B:prog.underlying t=some (.int k))(e:k.min=0)(z:k.max=(m:Int))(h:QX enc prog W fuel t cs=some x):∃u:Nat,cs=[.int k u]/\u<=m:=by
 obtain⟨n,w,-,b⟩:=DataW.trod_int B h;simp only[Lit.wf,Bool.and_eq_true,decide_eq_true_eq]at b;rw[e,z]at b;obtain⟨u,rfl⟩:=Int.eq_ofNat_of_zero_le b.1;exact⟨u,w,O1⟩
def eP{T:Type}(U:Qa T)(a:Option Addr)(len:Nat)(l:List Nat):Prop:=Qy U a len 1 l λ n vs=>vs=[.int .u16 (n:Int)]/\n<65536
def Zvp(h:QX enc prog W fuel 33 [v]=some x)(B:Sz prog 33 x.1):∃a len cap l,v=.slice a len cap/\eP (Qa.all W) a len l/\len<2^60:=by
 obtain⟨a,len,cap,l,b,e,w⟩:=XI (R:=λ(n:Nat)vs=>vs=[.int .u16 (n:Int)]/\n<65536) sw zs D1 zG h B λ m r y z _=>by
  obtain⟨u,b,e⟩:=dQ (m:=65535) kG D1 D1 z;exact⟨u,b,O1⟩
 exact⟨a,len,cap,l,b,e,w⟩
end
def M7:List UInt8:=[40,116,111,117,99,104,109,97,114,107,47,114,105,118,97,108,46,98,111,111,107,41,46,114,105,103,104,116,115]
def Lx:List UInt8:=[40,116,111,117,99,104,109,97,114,107,47,114,105,118,97,108,46,98,111,111,107,41,46,99,97,115,101,115]
def M6:List UInt8:=[40,116,111,117,99,104,109,97,114,107,47,114,105,118,97,108,46,98,111,111,107,41,46,108,111,111,112,115]
abbrev KY:List (String×DataW Unit):=YtcakpkianonbkaaGreatDoor.Rows.rivalLateRow.laid
noncomputable def Lv:String:=(YtcakpkianonbkaaGreatDoor.Rows.rivalLateRow.named[0]?).getD Tryz.f6.name
def AE:((range prog.funcs.size).filter λ f=>(prog.funcs[f]?).any (·.name.toUTF8.data.toList==M7))=[191]:=K1
def AF:((range prog.funcs.size).filter λ f=>(prog.funcs[f]?).any (·.name.toUTF8.data.toList==Lx))=[192]:=K1
def AD:((range prog.funcs.size).filter λ f=>(prog.funcs[f]?).any (·.name.toUTF8.data.toList==M6))=[91]:=K1
def E7:prog.globalNamed Lv=some 0:=K1
def tM:(prog.globals[0]?).map (·.type)=some 151:=K1
def Ri:prog.cellsOf 150=1:=K1
def zI:prog.cellsOf 151=3:=K1
def DH(P:Program)(t:TypeId):Bool:=match P.underlying t with|some (.func _ _ _)=>true|_=>false
def eH{P:Program}{t:TypeId}(h:DH P t=true):∃ps rs b,P.underlying t=some (.func ps rs b):=by
 unfold DH at h;split at h
 .rename_i ps rs b hu;exact⟨ps,rs,b,hu⟩
 .cases h
def vy:DH prog 150=true:=K1
def Zsy{W:World}(h:laidMetH prog KY W):WC (Qa.all W):=by
 obtain⟨g,t,cs,fuel,p,V,X,z,U⟩:=h.funcs (n:=Lv) (mem_cons_of_mem _ (mem_cons_self ..));obtain rfl:=Option.some.inj (E7.symm.trans V);obtain rfl:=Option.some.inj (tM.symm.trans X);have E:DataW.trod (funcToken prog) prog W 0 (λ _=>true) true fuel 151 cs.toList=some (.agg [.held M7,.held Lx,.held M6],p):=U;obtain⟨xs,m,-,Q,P,G,w⟩:=DataW.trod_array KF E;rw[zI]at P;obtain⟨Y,Z,v2,e⟩:=KO P;obtain⟨x0,x1,x2,rfl⟩:=KO G;simp only[Prod.mk.injEq,DataW.agg.injEq,map_cons,map_nil,List.cons.injEq,and_true]at Q;obtain⟨⟨H,I,K⟩,-⟩:=Q;obtain⟨ps,rs,va,F⟩:=eH vy;have L:=w 0 O1;have M:=w 1 O1;have N:=w 2 O1;rw[e,Ri]at L M N;obtain⟨q0,r0⟩:=x0;obtain⟨q1,r1⟩:=x1;obtain⟨q2,r2⟩:=x2;simp only at H I K;subst H I K;have f0:Y=.func (.func 191) #[] #[]:=Go.func_of_trod (b:=40) (f0:=191) F AE L;have S:Z=.func (.func 192) #[] #[]:=Go.func_of_trod (b:=40) (f0:=192) F AF M;have T:v2=.func (.func 91) #[] #[]:=Go.func_of_trod (b:=40) (f0:=91) F AD N
 have B:cs=Oy:=by
  apply Array.ext';rw[e,f0,S,T];rfl
 unfold World.var? at z;rw[E7]at z;simp only[Option.bind_some]at z;split at z
 .rename_i c t fr hb;cases z;exact⟨t,fr,by rw[<- B];exact hb⟩
 .cases z
def Zqi(os:Os)(args:Array Value):laidMetH prog KY ((World.doorLaid prog 200 os).forCall (λ _ _=>0) ⟨#[],args,[]⟩).memory:=
 laidMetH_of_parts3 (fuel:=8) (laidMet_of_run' 8 K1 K1) K1 K1
end Go.Proofs
end

