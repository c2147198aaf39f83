/- Lemmas. No conditions. -/
import Derived.Test.YtajkaognaiglhaaGreatDoorTie
import Derived.Test.YtajkaognaiglhaaGreatDoorCards
import Derived.LaidMore
import Derived.Test.YtajkaognaiglhaaGreatDoorB29
set_option linter.all false
set_option maxRecDepth 100000
open List
open Go.Proofs.Tryz (prog)
noncomputable section
namespace Go.TM
open Go.Proofs
variable{T α H:Type}{U:Qa T}{a:Option Addr}{len n fuel:Nat}{l:List α}{b:α->List Value->Prop}{enc:TypeId×Value->H}{P:Program}{W:World}{t e:TypeId}{x:DataW H×List MemPlace}
def Zd.all(h:Zd U a len n l b):∀x∈l,∃r,b x r:=λ x w=>by
 obtain⟨i,e⟩:=getElem?_of_mem w;obtain⟨_,r,_,_,f,_⟩:=h.2 i x e;exact⟨r,f⟩
def Ml(h:l.length=2):∃a b,l=[a,b]:=by
 cases l with
 |nil=>simp at h
 |cons a r=>obtain⟨b,rfl⟩:=length_eq_one_iff.1 (by simpa using h);exact⟨a,b,rfl⟩
def K_(h:l.length=3):∃a b c,l=[a,b,c]:=by
 cases l with
 |nil=>simp at h
 |cons a r=>obtain⟨b,c,rfl⟩:=Ml (l:=r) (by simpa using h);exact⟨a,b,c,rfl⟩
def Zct(h:l.length=4):∃a b c d,l=[a,b,c,d]:=by
 cases l with
 |nil=>simp at h
 |cons a r=>obtain⟨b,c,d,rfl⟩:=K_ (l:=r) (by simpa using h);exact⟨a,b,c,d,rfl⟩
def Zd.ints{l:List Int}(h:Zd U a len 1 l λ n vs=>vs=[.int .i64 n]):Z8 U a len l:=by
 refine⟨h.1,λ i x B=>?_⟩;obtain⟨e,vs,f,z,rfl,-,w⟩:=h.2 i x B;have:=w 0 _ rfl;exact⟨e,f,z,by simpa[Addr.add]using this⟩
def Zdt(E:P.underlying t=some (.slice e)) (h:WW enc P W fuel t [.slice a len n]=some x):len<=n:=by
 rcases DataW.trod_slice E h with⟨w,F⟩|⟨a',B,z,f,rest,m,_,w,F,G⟩
 .simp only[List.cons.injEq,and_true,Value.slice.injEq]at w;omega
 .simp only[List.cons.injEq,and_true,Value.slice.injEq]at w;omega
variable{cs r:List Value}{k:IntKind}{c:List (TypeId×Nat)}{d:List UInt8}{v:Value}{m:Nat}{y:DataW H×List MemPlace}
section
open Go.TM Go.ChangeShapes Go.WideShapes Go.RowKit
def qj(e:prog.underlying t=some (.int k))(h:WW enc prog W fuel t cs=some x):∃n,cs=[.int k n]:=by
 obtain⟨n,h,_⟩:=DataW.trod_int e h;exact⟨n,h⟩
def Mq:prog.underlying 3=some (.int .i64):=K1
def Zdf:prog.underlying 4=some .bool:=K1
def Zdg:prog.underlying 5=some (.int .u8):=K1
def Mt:prog.underlying 9=some .string:=K1
def Zcf:prog.underlying 22=some (.slice 9):=K1
def Zcg:prog.underlying 23=some (.slice 46):=K1
def E1:prog.underlying 44=some (.slice 3):=K1
def Lw:prog.underlying 43=some (.slice 44):=K1
def VZ(P:Program)(t:TypeId)(l:List (TypeId×Nat)):Bool:=match P.underlying t with|some (.struct e)=>(e.toList.map λ f=>(f.type,f.offset))==l|_=>false
def Zb1(h:VZ P t c=true):∃e,P.underlying t=some (.struct e)/\∀(i:Nat)(ft off:Nat),c[i]?=some (ft,off)->(e[i]?).map (λ f=>(f.type,f.offset))=some (ft,off):=by
 unfold VZ at h;split at h
 .rename_i e hu;refine⟨e,hu,λ i ft off w=>?_⟩;rw[<- eq_of_beq h,getElem?_map,Array.getElem?_toList]at w;exact w
 .cases h
def Zby:VZ prog 25 [(22,0),(23,1)]=true:=K1
def Zbz:VZ prog 46 [(9,0),(3,1),(43,2),(44,3)]=true:=K1
def Ax:prog.cellsOf 3=1:=K1
def Zab:prog.cellsOf 9=1:=K1
def Q74:prog.cellsOf 22=1:=K1
def Q75:prog.cellsOf 23=1:=K1
def Q76:prog.cellsOf 25=2:=K1
def Rv:prog.cellsOf 44=1:=K1
def Q77:prog.cellsOf 43=1:=K1
def Q78:prog.cellsOf 46=4:=K1
def Av:0<prog.bytesOf 3:=of_decide_eq_true K1
def Zaa:0<prog.bytesOf 9:=of_decide_eq_true K1
def Ru:0<prog.bytesOf 44:=of_decide_eq_true K1
def Q70:0<prog.bytesOf 46:=of_decide_eq_true K1
def Sz.str50(h:Sz P t (.lit (.string d):DataW H)):d.length<2^50:=by
 have:=h _ (by simp[DataW.weights];rfl);have:=(show reachBytes<2^50 by decide);omega
def MY(h:WW enc prog W fuel 44 [v]=some x)(B:Sz prog 44 x.1):∃a len cap l,v=.slice a len cap/\Z8 (Qa.all W) a len l/\len<2^60:=by
 obtain⟨a,len,cap,l,e,f,w⟩:=Ep (R:=λ(n:Int)vs=>vs=[.int .i64 n]) E1 Ax D1 Av h B λ m r y z _=>qj Mq z;exact⟨a,len,cap,l,e,f.ints,w⟩
def Zdu(h:WW enc prog W m 9 r=some y)(f:Sz prog 9 y.1):∃s:ByteArray,r=[.string s]/\s.size<2^50:=by
 obtain⟨s,e,rfl,-⟩:=DataW.trod_string Mt h;have:=Sz.str50 f;rw[Array.length_toList]at this;exact⟨s,e,this⟩
def Zc7(h:WW enc prog W fuel 43 [v]=some x)(w:Sz prog 43 x.1):∃a len cap H,v=.slice a len cap/\Wt (Qa.all W) a len H/\len<2^60:=
 Ep (R:=λ(l:List Int)vs=>∃a' e f,vs=[.slice a' e f]/\Z8 (Qa.all W) a' e l/\e<2^60) Lw Rv D1 Ru h w λ m r y B w=>by
  have G:r.length=1:=by
   rcases DataW.trod_slice E1 B with⟨z,-⟩|⟨_,_,_,_,_,_,_,z,-⟩ <;> rw[z] <;> rfl
  obtain⟨c0,rfl⟩:=length_eq_one_iff.1 G;obtain⟨a,len,cap,l,rfl,E,F⟩:=MY B w;exact⟨l,a,len,cap,rfl,E,F⟩
def UT:List UInt8:=[40,116,111,117,99,104,109,97,114,107,47,114,105,118,97,108,46,98,111,111,107,41,46,114,105,103,104,116,115]
def UU:List UInt8:=[40,116,111,117,99,104,109,97,114,107,47,114,105,118,97,108,46,98,111,111,107,41,46,99,97,115,101,115]
def UR:List UInt8:=[40,116,111,117,99,104,109,97,114,107,47,114,105,118,97,108,46,98,111,111,107,41,46,108,111,111,112,115]
abbrev UQ:List (String×DataW Unit):=YtajkaognaiglhaaGreatDoor.Rows.rivalHoldsRow.laid
def Ui:String:=(YtajkaognaiglhaaGreatDoor.Rows.rivalHoldsRow.named[0]?).getD Tryz.f6.name
def AR:((range prog.funcs.size).filter λ f=>(prog.funcs[f]?).any (·.name.toUTF8.data.toList==UT))=[173]:=K1
def AS:((range prog.funcs.size).filter λ f=>(prog.funcs[f]?).any (·.name.toUTF8.data.toList==UU))=[174]:=K1
def AQ:((range prog.funcs.size).filter λ f=>(prog.funcs[f]?).any (·.name.toUTF8.data.toList==UR))=[41]:=K1
def Do:prog.globalNamed Ui=some 0:=K1
def Lg:(prog.globals[0]?).map (·.type)=some 133:=K1
def Rw:prog.cellsOf 132=1:=K1
def N_:prog.cellsOf 133=3:=K1
def OE(P:Program)(t:TypeId):Bool:=match P.underlying t with|some (.func _ _ _)=>true|_=>false
def qy(h:OE P t=true):∃ps rs e,P.underlying t=some (.func ps rs e):=by
 unfold OE at h;split at h
 .rename_i ps rs e hu;exact⟨ps,rs,e,hu⟩
 .cases h
def EX:OE prog 132=true:=K1
def Zah(h:laidMetH prog UQ W):JU (Qa.all W):=by
 obtain⟨g,t,cs,fuel,p,U,V,w,T⟩:=h.funcs (n:=Ui) (mem_cons_self ..);obtain rfl:=Option.some.inj (Do.symm.trans U);obtain rfl:=Option.some.inj (Lg.symm.trans V);have B:DataW.trod (funcToken prog) prog W 0 (λ _=>true) true fuel 133 cs.toList=some (.agg [.held UT,.held UU,.held UR],p):=T;obtain⟨xs,m,-,P,N,F,f⟩:=DataW.trod_array VB B;rw[N_]at N;obtain⟨X,Y,Z,e⟩:=K_ N;obtain⟨x0,x1,x2,rfl⟩:=K_ F;simp only[Prod.mk.injEq,DataW.agg.injEq,map_cons,map_nil,List.cons.injEq,and_true]at P;obtain⟨⟨G,H,I⟩,-⟩:=P;obtain⟨ps,rs,va,E⟩:=qy EX;have K:=f 0 O1;have L:=f 1 O1;have M:=f 2 O1;rw[e,Rw]at K L M;obtain⟨q0,r0⟩:=x0;obtain⟨q1,r1⟩:=x1;obtain⟨q2,r2⟩:=x2;simp only at G H I;subst G H I;have f0:X=.func (.func 173) #[] #[]:=Go.func_of_trod (b:=40) (f0:=173) E AR K;have Q:Y=.func (.func 174) #[] #[]:=Go.func_of_trod (b:=40) (f0:=174) E AS L;have S:Z=.func (.func 41) #[] #[]:=Go.func_of_trod (b:=40) (f0:=41) E AQ M
 have z:cs=V7:=by
  apply Array.ext';rw[e,f0,Q,S];rfl
 unfold World.var? at w;rw[Do]at w;simp only[Option.bind_some]at w;split at w
 .rename_i c t fr hb;cases w;exact⟨t,fr,by rw[<- z];exact hb⟩
 .cases w
def Q7t(os:Os)(args:Array Value):laidMetH prog UQ ((World.doorLaid prog 200 os).forCall (λ _ _=>0) ⟨#[],args,[]⟩).memory:=
 laidMetH_of_parts3 (fuel:=8) (laidMet_of_run' 8 K1 K1) K1 K1
