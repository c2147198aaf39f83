/- Lemmas. No conditions. -/
import Derived.Test.YtignaaddghcanaaGreatDoorTie
import Derived.Test.YtignaaddghcanaaGreatDoorCards
import Derived.LaidMore
import Derived.Lay
import Derived.Test.YtignaaddghcanaaGreatDoorB39
set_option linter.all false
set_option maxRecDepth 100000
open List
open Go.Proofs.Tryz (prog)
noncomputable section
namespace Go.TM
open Go.Proofs
variable{T α H:Type}{U:Qa T}{a:Option Addr}{len n fuel:Nat}{l:List α}{enc:TypeId×Value->H}{P:Program}{W:World}{t e:TypeId}{x:DataW H×List MemPlace}
def Q8.all{R:α->List Value->Prop}(h:Q8 U a len n l R):∀x∈l,∃r,R x r:=λ x w=>by
 obtain⟨i,b⟩:=getElem?_of_mem w;obtain⟨_,r,_,_,f,_⟩:=h.2 i x b;exact⟨r,f⟩
def L6(h:l.length=2):∃a b,l=[a,b]:=by
 cases l with
 |nil=>simp at h
 |cons a r=>obtain⟨b,rfl⟩:=length_eq_one_iff.1 (by simpa using h);exact⟨a,b,rfl⟩
def Ol(h:l.length=3):∃a b c,l=[a,b,c]:=by
 cases l with
 |nil=>simp at h
 |cons a r=>obtain⟨b,c,rfl⟩:=L6 (l:=r) (by simpa using h);exact⟨a,b,c,rfl⟩
def pY(h:l.length=4):∃a b c d,l=[a,b,c,d]:=by
 cases l with
 |nil=>simp at h
 |cons a r=>obtain⟨b,c,d,rfl⟩:=Ol (l:=r) (by simpa using h);exact⟨a,b,c,d,rfl⟩
def Q8.ints{l:List Int}(h:Q8 U a len 1 l λ n vs=>vs=[.int .i64 n]):Z3 U a len l:=by
 refine⟨h.1,λ i x B=>?_⟩;obtain⟨b,vs,f,z,rfl,-,w⟩:=h.2 i x B;have:=w 0 _ rfl;exact⟨b,f,z,by simpa[Addr.add]using this⟩
def Ly(B:P.underlying t=some (.slice e)) (h:JV enc P W fuel t [.slice a len n]=some x):len<=n:=by
 rcases DataW.trod_slice B h with⟨f,E⟩|⟨a',z,w,b,rest,m,_,f,E,F⟩
 .simp only[List.cons.injEq,and_true,Value.slice.injEq]at f;omega
 .simp only[List.cons.injEq,and_true,Value.slice.injEq]at f;omega
variable{cs r:List Value}{k:IntKind}{c:List (TypeId×Nat)}{d:List UInt8}{m:Nat}{y:DataW H×List MemPlace}
section
open Go.TM Go.ChangeShapes Go.WideShapes Go.RowKit
def Lz(b:prog.underlying t=some (.int k))(h:JV enc prog W fuel t cs=some x):∃n,cs=[.int k n]:=by
 obtain⟨n,h,_⟩:=DataW.trod_int b h;exact⟨n,h⟩
def ID:prog.underlying 3=some (.int .i64):=K1
def Zof:prog.underlying 4=some .bool:=K1
def Zog:prog.underlying 5=some (.int .u8):=K1
def ve:prog.underlying 9=some .string:=K1
def KM(P:Program)(t:TypeId)(l:List (TypeId×Nat)):Bool:=match P.underlying t with|some (.struct b)=>(b.toList.map λ f=>(f.type,f.offset))==l|_=>false
def FI(h:KM P t c=true):∃b,P.underlying t=some (.struct b)/\∀(i:Nat)(ft off:Nat),c[i]?=some (ft,off)->(b[i]?).map (λ f=>(f.type,f.offset))=some (ft,off):=by
 unfold KM at h;split at h
 .rename_i b hu;refine⟨b,hu,λ i ft off w=>?_⟩;rw[<- eq_of_beq h,getElem?_map,Array.getElem?_toList]at w;exact w
 .cases h
def E1:prog.cellsOf 3=1:=K1
def E2:prog.cellsOf 9=1:=K1
def Mh:0<prog.bytesOf 3:=of_decide_eq_true K1
def Mi:0<prog.bytesOf 9:=of_decide_eq_true K1
def Sz.str50(h:Sz P t (.lit (.string d):DataW H)):d.length<2^50:=by
 have:=h _ (by simp[DataW.weights];rfl);have:=(show reachBytes<2^50 by decide);omega
def LA(h:JV enc prog W m 9 r=some y)(f:Sz prog 9 y.1):∃s:ByteArray,r=[.string s]/\s.size<2^50:=by
 obtain⟨s,b,rfl,-⟩:=DataW.trod_string ve h;have:=Sz.str50 f;rw[Array.length_toList]at this;exact⟨s,b,this⟩
def FP:List UInt8:=[40,116,111,117,99,104,109,97,114,107,47,114,105,118,97,108,46,98,111,111,107,41,46,114,105,103,104,116,115]
def FQ:List UInt8:=[40,116,111,117,99,104,109,97,114,107,47,114,105,118,97,108,46,98,111,111,107,41,46,99,97,115,101,115]
def FO:List UInt8:=[40,116,111,117,99,104,109,97,114,107,47,114,105,118,97,108,46,98,111,111,107,41,46,108,111,111,112,115]
abbrev FN:List (String×DataW Unit):=YtignaaddghcanaaGreatDoor.Rows.rivalBackRow.laid
noncomputable def Fo:String:=(YtignaaddghcanaaGreatDoor.Rows.rivalBackRow.named[0]?).getD Tryz.f6.name
def MM:((range prog.funcs.size).filter λ f=>(prog.funcs[f]?).any (·.name.toUTF8.data.toList==FP))=[218]:=K1
def MN:((range prog.funcs.size).filter λ f=>(prog.funcs[f]?).any (·.name.toUTF8.data.toList==FQ))=[219]:=K1
def ML:((range prog.funcs.size).filter λ f=>(prog.funcs[f]?).any (·.name.toUTF8.data.toList==FO))=[92]:=K1
def Un:prog.globalNamed Fo=some 0:=K1
def gk:(prog.globals[0]?).map (·.type)=some 138:=K1
def qZ:prog.cellsOf 137=1:=K1
def qG:prog.cellsOf 138=3:=K1
def Uj(P:Program)(t:TypeId):Bool:=match P.underlying t with|some (.func _ _ _)=>true|_=>false
def yw(h:Uj P t=true):∃b rs f,P.underlying t=some (.func b rs f):=by
 unfold Uj at h;split at h
 .rename_i b rs f hu;exact⟨b,rs,f,hu⟩
 .cases h
def wg:Uj prog 137=true:=K1
def Zl2(h:laidMetH prog FN W):JY (Qa.all W):=by
 obtain⟨g,t,cs,fuel,p,V,X,w,U⟩:=h.funcs (n:=Fo) (mem_cons_of_mem _ (mem_cons_self ..));obtain rfl:=Option.some.inj (Un.symm.trans V);obtain rfl:=Option.some.inj (gk.symm.trans X);have B:DataW.trod (funcToken prog) prog W 0 (λ _=>true) true fuel 138 cs.toList=some (.agg [.held FP,.held FQ,.held FO],p):=U;obtain⟨xs,m,-,Q,P,F,f⟩:=DataW.trod_array VG B;rw[qG]at P;obtain⟨Y,Z,v2,e⟩:=Ol P;obtain⟨x0,x1,x2,rfl⟩:=Ol F;simp only[Prod.mk.injEq,DataW.agg.injEq,map_cons,map_nil,List.cons.injEq,and_true]at Q;obtain⟨⟨G,H,I⟩,-⟩:=Q;obtain⟨ps,rs,va,E⟩:=yw wg;have K:=f 0 O1;have L:=f 1 O1;have N:=f 2 O1;rw[e,qZ]at K L N;obtain⟨q0,r0⟩:=x0;obtain⟨q1,r1⟩:=x1;obtain⟨q2,r2⟩:=x2;simp only at G H I;subst G H I;have f0:Y=.func (.func 218) #[] #[]:=Go.func_of_trod (b:=40) (f0:=218) E MM K;have S:Z=.func (.func 219) #[] #[]:=Go.func_of_trod (b:=40) (f0:=219) E MN L;have T:v2=.func (.func 92) #[] #[]:=Go.func_of_trod (b:=40) (f0:=92) E ML N
 have z:cs=Yn:=by
  apply Array.ext';rw[e,f0,S,T];rfl
 unfold World.var? at w;rw[Un]at w;simp only[Option.bind_some]at w;split at w
 .rename_i c t fr hb;cases w;exact⟨t,fr,by rw[<- z];exact hb⟩
 .cases w
def px(os:Os):World:=(World.doorLaid prog 200 os).layVars prog [("unicode/utf8.first", YtignaaddghcanaaGreatDoor.Rows.laid_unicode_utf8_first)]
def Zjz(os:Os)(args:Array Value):laidMetH prog FN ((px os).forCall (λ _ _=>0) ⟨#[],args,[]⟩).memory:=
 laidMetH_of_parts3 (fuel:=8) (laidMet_of_run' 8 K1 K1) K1 K1
