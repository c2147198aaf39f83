/- Lemmas. No conditions. -/
import Derived.Test.YtnjljnhoaafkiaaGreatDoorTie
import Derived.Test.YtnjljnhoaafkiaaGreatDoorCards
import Derived.LaidMore
import Derived.Test.YtnjljnhoaafkiaaGreatDoorB40
set_option linter.all false
set_option maxRecDepth 100000
open List
open Go.Proofs.Tryz (prog)
noncomputable section
namespace Go.TM
open Go.Proofs
variable{T α:Type}{U:Qa T}{a:Option Addr}{fuel n:Nat}{l:List α}
def Q7.all{R:α->List Value->Prop}(h:Q7 U a fuel n l R):∀x∈l,∃r,R x r:=λ x hx=>by
 obtain⟨i,hi⟩:=getElem?_of_mem hx;obtain⟨_,r,_,_,b,_⟩:=h.2 i x hi;exact⟨r,b⟩
def Lh(h:l.length=2):∃a b,l=[a,b]:=by
 cases l with
 |nil=>simp at h
 |cons a r=>obtain⟨b,rfl⟩:=length_eq_one_iff.1 (by simpa using h);exact⟨a,b,rfl⟩
def Pp(h:l.length=3):∃a b c,l=[a,b,c]:=by
 cases l with
 |nil=>simp at h
 |cons a r=>obtain⟨b,c,rfl⟩:=Lh (l:=r) (by simpa using h);exact⟨a,b,c,rfl⟩
variable{H:Type}{enc:TypeId×Value->H}{W:World}{x:DataW H×List MemPlace}{cs:List Value}{k:IntKind}{t:TypeId}{P:Program}{c:List (TypeId×Nat)}{m:Nat}{v:Value}
section
open Go.TM Go.ChangeShapes Go.WideShapes Go.RowKit
def Hu(b:prog.underlying t=some (.int k))(h:JT enc prog W fuel t cs=some x):∃n,cs=[.int k n]:=by
 obtain⟨n,h,_⟩:=DataW.trod_int b h;exact⟨n,h⟩
def Hg:prog.underlying 3=some (.int .i64):=K1
def Zmp:prog.underlying 4=some .bool:=K1
def g_:prog.underlying 5=some (.int .u8):=K1
def pb:prog.underlying 9=some .string:=K1
def HM(P:Program)(t:TypeId)(l:List (TypeId×Nat)):Bool:=match P.underlying t with|some (.struct b)=>(b.toList.map λ f=>(f.type,f.offset))==l|_=>false
def Pk(h:HM P t c=true):∃b,P.underlying t=some (.struct b)/\∀(i:Nat)(ft off:Nat),c[i]?=some (ft,off)->(b[i]?).map (λ f=>(f.type,f.offset))=some (ft,off):=by
 unfold HM at h;split at h
 .rename_i b hu;refine⟨b,hu,λ i ft off hi=>?_⟩;rw[<- eq_of_beq h,getElem?_map,Array.getElem?_toList]at hi;exact hi
 .cases h
def Wk:prog.cellsOf 3=1:=K1
def ME:prog.cellsOf 9=1:=K1
def kp(w:prog.underlying t=some (.int k))(f:k.min=0)(hm:k.max=(m:Int))(h:JT enc prog W fuel t cs=some x):∃u:Nat,cs=[.int k u]/\u<=m:=by
 obtain⟨n,h1,-,b⟩:=DataW.trod_int w h;simp only[Lit.wf,Bool.and_eq_true,decide_eq_true_eq]at b;rw[f,hm]at b;obtain⟨u,rfl⟩:=Int.eq_ofNat_of_zero_le b.1;exact⟨u,h1,O1⟩
def Znh(h:JT enc prog W fuel 5 [v]=some x):∃u:Nat,v=.int .u8 u/\u<256:=by
 obtain⟨u,h1,h2⟩:=kp (m:=255) g_ D1 D1 h;exact⟨u,by simpa using h1,O1⟩
def I5:List UInt8:=[40,116,111,117,99,104,109,97,114,107,47,114,105,118,97,108,46,98,111,111,107,41,46,114,105,103,104,116,115]
def I6:List UInt8:=[40,116,111,117,99,104,109,97,114,107,47,114,105,118,97,108,46,98,111,111,107,41,46,99,97,115,101,115]
def I4:List UInt8:=[40,116,111,117,99,104,109,97,114,107,47,114,105,118,97,108,46,98,111,111,107,41,46,108,111,111,112,115]
abbrev I0:List (String×DataW Unit):=YtnjljnhoaafkiaaGreatDoor.Rows.rivalItemsRow.laid
noncomputable def FF:String:=(YtnjljnhoaafkiaaGreatDoor.Rows.rivalItemsRow.named[0]?).getD Tryz.f6.name
def N2:((range prog.funcs.size).filter λ f=>(prog.funcs[f]?).any (·.name.toUTF8.data.toList==I5))=[191]:=K1
def N3:((range prog.funcs.size).filter λ f=>(prog.funcs[f]?).any (·.name.toUTF8.data.toList==I6))=[192]:=K1
def N1:((range prog.funcs.size).filter λ f=>(prog.funcs[f]?).any (·.name.toUTF8.data.toList==I4))=[91]:=K1
def UM:prog.globalNamed FF=some 0:=K1
def xV:(prog.globals[0]?).map (·.type)=some 137:=K1
def zB:prog.cellsOf 136=1:=K1
def zg:prog.cellsOf 137=3:=K1
def UG(P:Program)(t:TypeId):Bool:=match P.underlying t with|some (.func _ _ _)=>true|_=>false
def kg(h:UG P t=true):∃ps rs b,P.underlying t=some (.func ps rs b):=by
 unfold UG at h;split at h
 .rename_i ps rs b hu;exact⟨ps,rs,b,hu⟩
 .cases h
def jR:UG prog 136=true:=K1
def Zj2(h:laidMetH prog I0 W):JU (Qa.all W):=by
 obtain⟨g,t,cs,fuel,p,Q,ht,w,P⟩:=h.funcs (n:=FF) (mem_cons_self ..);obtain rfl:=Option.some.inj (UM.symm.trans Q);obtain rfl:=Option.some.inj (xV.symm.trans ht);have E:DataW.trod (funcToken prog) prog W 0 (λ _=>true) true fuel 137 cs.toList=some (.agg [.held I5,.held I6,.held I4],p):=P;obtain⟨xs,m,-,hx,hl,G,f⟩:=DataW.trod_array VN E;rw[zg]at hl;obtain⟨S,T,U,e⟩:=Pp hl;obtain⟨V,X,Y,rfl⟩:=Pp G;simp only[Prod.mk.injEq,DataW.agg.injEq,map_cons,map_nil,List.cons.injEq,and_true]at hx;obtain⟨⟨H,I,K⟩,-⟩:=hx;obtain⟨ps,rs,va,F⟩:=kg jR;have L:=f 0 O1;have h1:=f 1 O1;have h2:=f 2 O1;rw[e,zB]at L h1 h2;obtain⟨Z,r0⟩:=V;obtain⟨q1,r1⟩:=X;obtain⟨q2,r2⟩:=Y;simp only at H I K;subst H I K;have f0:S=.func (.func 191) #[] #[]:=Go.func_of_trod (b:=40) (f0:=191) F N2 L;have M:T=.func (.func 192) #[] #[]:=Go.func_of_trod (b:=40) (f0:=192) F N3 h1;have N:U=.func (.func 91) #[] #[]:=Go.func_of_trod (b:=40) (f0:=91) F N1 h2
 have B:cs=YC:=by
  apply Array.ext';rw[e,f0,M,N];rfl
 unfold World.var? at w;rw[UM]at w;simp only[Option.bind_some]at w;split at w
 .rename_i c t fr hb;cases w;exact⟨t,fr,by rw[<- B];exact hb⟩
 .cases w
def Zhx(os:Os)(args:Array Value):laidMetH prog I0 ((World.doorLaid prog 200 os).forCall (λ _ _=>0) ⟨#[],args,[]⟩).memory:=
 laidMetH_of_parts3 (fuel:=8) (laidMet_of_run' 8 K1 K1) K1 K1
