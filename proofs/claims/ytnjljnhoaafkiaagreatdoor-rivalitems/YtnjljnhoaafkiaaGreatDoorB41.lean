/- Lemmas. No conditions. -/
import Derived.Test.YtnjljnhoaafkiaaGreatDoorTie
import Derived.Test.YtnjljnhoaafkiaaGreatDoorCards
import Derived.LaidMore
import Derived.Test.YtnjljnhoaafkiaaGreatDoorB40
set_option linter.all false
open List
open Go.Proofs.Tryz (prog)
set_option maxRecDepth 100000
noncomputable section
namespace Go.TM
def Q7.all{T:Type}{U:Qa T}{a:Option Addr}{len n:Nat}{α:Type}{l:List α}{R:α->List Value->Prop}(h:Q7 U a len n l R):∀x∈l,∃r,R x r:=λ x hx=>by
 obtain⟨i,b⟩:=getElem?_of_mem hx;obtain⟨_,r,_,_,f,_⟩:=h.2 i x b;exact⟨r,f⟩
def IR{α:Type}{l:List α}(h:l.length=2):∃a b,l=[a,b]:=by
 cases l with
 |nil=>simp at h
 |cons a r=>obtain⟨b,rfl⟩:=length_eq_one_iff.1 (by simpa using h);exact⟨a,b,rfl⟩
def Pn{α:Type}{l:List α}(h:l.length=3):∃a b c,l=[a,b,c]:=by
 cases l with
 |nil=>simp at h
 |cons a r=>obtain⟨b,c,rfl⟩:=IR (l:=r) (by simpa using h);exact⟨a,b,c,rfl⟩
end Go.TM
namespace Go.Proofs
open Go.TM Go.ChangeShapes Go.WideShapes Go.RowKit
section
variable{H:Type}{enc:TypeId×Value->H}{W:World}{fuel:Nat}{x:DataW H×List MemPlace}{v:Value}{cs:List Value}
def Hr{k:IntKind}{t:TypeId}(b:prog.underlying t=some (.int k))(h:JQ enc prog W fuel t cs=some x):∃n,cs=[.int k n]:=by
 obtain⟨n,h,_⟩:=DataW.trod_int b h;exact⟨n,h⟩
def He:prog.underlying 3=some (.int .i64):=K1
def Zo2:prog.underlying 4=some .bool:=K1
def kp:prog.underlying 5=some (.int .u8):=K1
def kq:prog.underlying 9=some .string:=K1
def HI(P:Program)(t:TypeId)(l:List (TypeId×Nat)):Bool:=match P.underlying t with|some (.struct b)=>(b.toList.map λ f=>(f.type,f.offset))==l|_=>false
def Pg{P:Program}{t:TypeId}{l:List (TypeId×Nat)}(h:HI P t l=true):∃b,P.underlying t=some (.struct b)/\∀(i:Nat)(ft off:Nat),l[i]?=some (ft,off)->(b[i]?).map (λ f=>(f.type,f.offset))=some (ft,off):=by
 unfold HI at h;split at h
 .rename_i b hu;refine⟨b,hu,λ i ft off w=>?_⟩;rw[<- eq_of_beq h,getElem?_map,Array.getElem?_toList]at w;exact w
 .cases h
def Wk:prog.cellsOf 3=1:=K1
def M8:prog.cellsOf 9=1:=K1
def yT{k:IntKind}{t:TypeId}{m:Nat}(w:prog.underlying t=some (.int k))(f:k.min=0)(hm:k.max=(m:Int))(h:JQ enc prog W fuel t cs=some x):∃u:Nat,cs=[.int k u]/\u<=m:=by
 obtain⟨n,h1,-,b⟩:=DataW.trod_int w h;simp only[Lit.wf,Bool.and_eq_true,decide_eq_true_eq]at b;rw[f,hm]at b;obtain⟨u,rfl⟩:=Int.eq_ofNat_of_zero_le b.1;exact⟨u,h1,O1⟩
def Zpn(h:JQ enc prog W fuel 5 [v]=some x):∃u:Nat,v=.int .u8 u/\u<256:=by
 obtain⟨u,h1,h2⟩:=yT (m:=255) kp D1 D1 h;exact⟨u,by simpa using h1,O1⟩
end
def I6:List UInt8:=[40,116,111,117,99,104,109,97,114,107,47,114,105,118,97,108,46,98,111,111,107,41,46,114,105,103,104,116,115]
def I7:List UInt8:=[40,116,111,117,99,104,109,97,114,107,47,114,105,118,97,108,46,98,111,111,107,41,46,99,97,115,101,115]
def I5:List UInt8:=[40,116,111,117,99,104,109,97,114,107,47,114,105,118,97,108,46,98,111,111,107,41,46,108,111,111,112,115]
abbrev I4:List (String×DataW Unit):=YtnjljnhoaafkiaaGreatDoor.Rows.rivalItemsRow.laid
noncomputable def Fv:String:=(YtnjljnhoaafkiaaGreatDoor.Rows.rivalItemsRow.named[0]?).getD Tryz.f6.name
def MN:((range prog.funcs.size).filter λ f=>(prog.funcs[f]?).any (·.name.toUTF8.data.toList==I6))=[191]:=K1
def MO:((range prog.funcs.size).filter λ f=>(prog.funcs[f]?).any (·.name.toUTF8.data.toList==I7))=[192]:=K1
def MM:((range prog.funcs.size).filter λ f=>(prog.funcs[f]?).any (·.name.toUTF8.data.toList==I5))=[91]:=K1
def UI:prog.globalNamed Fv=some 0:=K1
def pK:(prog.globals[0]?).map (·.type)=some 137:=K1
def zy:prog.cellsOf 136=1:=K1
def qY:prog.cellsOf 137=3:=K1
def UB(P:Program)(t:TypeId):Bool:=match P.underlying t with|some (.func _ _ _)=>true|_=>false
def yZ{P:Program}{t:TypeId}(h:UB P t=true):∃b rs f,P.underlying t=some (.func b rs f):=by
 unfold UB at h;split at h
 .rename_i b rs f hu;exact⟨b,rs,f,hu⟩
 .cases h
def wC:UB prog 136=true:=K1
def Zmj{W:World}(h:laidMetH prog I4 W):JY (Qa.all W):=by
 obtain⟨g,t,cs,fuel,p,P,ht,w,N⟩:=h.funcs (n:=Fv) (mem_cons_self ..);obtain rfl:=Option.some.inj (UI.symm.trans P);obtain rfl:=Option.some.inj (pK.symm.trans ht);have B:DataW.trod (funcToken prog) prog W 0 (λ _=>true) true fuel 137 cs.toList=some (.agg [.held I6,.held I7,.held I5],p):=N;obtain⟨xs,m,-,hx,hl,F,f⟩:=DataW.trod_array VK B;rw[qY]at hl;obtain⟨Q,S,T,e⟩:=Pn hl;obtain⟨U,V,X,rfl⟩:=Pn F;simp only[Prod.mk.injEq,DataW.agg.injEq,map_cons,map_nil,List.cons.injEq,and_true]at hx;obtain⟨⟨G,H,I⟩,-⟩:=hx;obtain⟨Y,rs,va,E⟩:=yZ wC;have K:=f 0 O1;have h1:=f 1 O1;have h2:=f 2 O1;rw[e,zy]at K h1 h2;obtain⟨Z,r0⟩:=U;obtain⟨q1,r1⟩:=V;obtain⟨q2,r2⟩:=X;simp only at G H I;subst G H I;have f0:Q=.func (.func 191) #[] #[]:=Go.func_of_trod (b:=40) (f0:=191) E MN K;have L:S=.func (.func 192) #[] #[]:=Go.func_of_trod (b:=40) (f0:=192) E MO h1;have M:T=.func (.func 91) #[] #[]:=Go.func_of_trod (b:=40) (f0:=91) E MM h2
 have z:cs=Yw:=by
  apply Array.ext';rw[e,f0,L,M];rfl
 unfold World.var? at w;rw[UI]at w;simp only[Option.bind_some]at w;split at w
 .rename_i c t fr hb;cases w;exact⟨t,fr,by rw[<- z];exact hb⟩
 .cases w
def Zkb(os:Os)(args:Array Value):laidMetH prog I4 ((World.doorLaid prog 200 os).forCall (λ _ _=>0) ⟨#[],args,[]⟩).memory:=
 laidMetH_of_parts3 (fuel:=8) (laidMet_of_run' 8 K1 K1) K1 K1
end Go.Proofs
end

