/- Lemmas. No conditions. -/
import Derived.Test.YtcakpkianonbkaaGreatDoorTie
import Derived.Test.YtcakpkianonbkaaGreatDoorCards
import Derived.LaidMore
import Derived.Test.YtcakpkianonbkaaGreatDoorB45
set_option linter.all false
open List
open Go.Proofs.Tryz (prog)
set_option maxRecDepth 100000
noncomputable section
namespace Go.TM
def Qx.all{T:Type}{U:Qa T}{a:Option Addr}{len n:Nat}{α:Type}{l:List α}{R:α->List Value->Prop}(h:Qx U a len n l R):∀x∈l,∃r,R x r:=λ x hx=>by
 obtain⟨i,hi⟩:=getElem?_of_mem hx;obtain⟨_,r,_,_,hr,_⟩:=h.2 i x hi;exact⟨r,hr⟩
def Qre{α:Type}{l:List α}(h:l.length=2):∃a b,l=[a,b]:=by
 cases l with
 |nil=>simp at h
 |cons a r=>obtain⟨b,rfl⟩:=length_eq_one_iff.1 (by simpa using h);exact⟨a,b,rfl⟩
def Qi3{α:Type}{l:List α}(h:l.length=3):∃a b c,l=[a,b,c]:=by
 cases l with
 |nil=>simp at h
 |cons a r=>obtain⟨b,c,rfl⟩:=Qre (l:=r) (by simpa using h);exact⟨a,b,c,rfl⟩
def Q54{α:Type}{l:List α}(h:l.length=4):∃a b c d,l=[a,b,c,d]:=by
 cases l with
 |nil=>simp at h
 |cons a r=>obtain⟨b,c,d,rfl⟩:=Qi3 (l:=r) (by simpa using h);exact⟨a,b,c,d,rfl⟩
def Qx.ints{T:Type}{U:Qa T}{a:Option Addr}{len:Nat}{l:List Int}(h:Qx U a len 1 l λ n vs=>vs=[.int .i64 n]):Z3 U a len l:=by
 refine⟨h.1,λ i x hx=>?_⟩;obtain⟨ad,vs,ha,hs,rfl,-,hr⟩:=h.2 i x hx;have:=hr 0 _ rfl;exact⟨ad,ha,hs,by simpa[Addr.add]using this⟩
end Go.TM
namespace Go.Proofs
open Go.TM Go.ChangeShapes Go.WideShapes Go.RowKit
section
variable{H:Type}{enc:TypeId×Value->H}{W:World}{fuel:Nat}{x:DataW H×List MemPlace}{v:Value}{cs:List Value}
def Qb3{k:IntKind}{t:TypeId}(hu:prog.underlying t=some (.int k))(h:Trd enc prog W fuel t cs=some x):∃n,cs=[.int k n]:=by
 obtain⟨n,h,_⟩:=DataW.trod_int hu h;exact⟨n,h⟩
def Qae:prog.underlying 3=some (.int .i64):=by kernel_rfl
def Zub:prog.underlying 4=some .bool:=by kernel_rfl
def Zpn:prog.underlying 5=some (.int .u8):=by kernel_rfl
def Zpo:prog.underlying 9=some .string:=by kernel_rfl
def Zm1:prog.underlying 22=some (.slice 3):=by kernel_rfl
def Zm2:prog.underlying 33=some (.slice 32):=by kernel_rfl
def Zio:prog.underlying 32=some (.int .u16):=by kernel_rfl
def Qbf(P:Program)(t:TypeId)(l:List (TypeId×Nat)):Bool:=match P.underlying t with|some (.struct fs)=>(fs.toList.map λ f=>(f.type,f.offset))==l|_=>false
def Qbx{P:Program}{t:TypeId}{l:List (TypeId×Nat)}(h:Qbf P t l=true):∃fs,P.underlying t=some (.struct fs)/\∀(i:Nat)(ft off:Nat),l[i]?=some (ft,off)->(fs[i]?).map (λ f=>(f.type,f.offset))=some (ft,off):=by
 unfold Qbf at h;split at h
 .rename_i fs hu;refine⟨fs,hu,λ i ft off hi=>?_⟩;rw[<- eq_of_beq h,getElem?_map,Array.getElem?_toList]at hi;exact hi
 .cases h
def Z8:prog.cellsOf 3=1:=by kernel_rfl
def Q21:prog.cellsOf 9=1:=by kernel_rfl
def Qkm:prog.cellsOf 22=1:=by kernel_rfl
def Qwj:prog.cellsOf 32=1:=by kernel_rfl
def Q2y:0<prog.bytesOf 3:=of_decide_eq_true (by kernel_rfl)
def Qwf:0<prog.bytesOf 32:=of_decide_eq_true (by kernel_rfl)
def Sz.str50{P:Program}{t:TypeId}{l:List UInt8}(h:Sz P t (.lit (.string l):DataW H)):l.length<2^50:=by
 have:=h _ (by simp[DataW.weights];rfl);have:=(show reachBytes<2^50 by decide);omega
def Zfw(h:Trd enc prog W fuel 22 [v]=some x)(hz:Sz prog 22 x.1):∃a len cap l,v=.slice a len cap/\Z3 (Qa.all W) a len l/\len<2^60:=by
 obtain⟨a,len,cap,l,h1,h2,h3⟩:=Qdv (R:=λ(n:Int)vs=>vs=[.int .i64 n]) Zm1 Z8 (by decide) Q2y h hz λ m r y hy _=>Qb3 Qae hy;exact⟨a,len,cap,l,h1,h2.ints,h3⟩
def Zsw{m:Nat}{r:List Value}{y:DataW H×List MemPlace}(h:Trd enc prog W m 9 r=some y)(hz:Sz prog 9 y.1):∃s:ByteArray,r=[.string s]/\s.size<2^50:=by
 obtain⟨s,hs,rfl,-⟩:=DataW.trod_string Zpo h;have:=Sz.str50 hz;rw[Array.length_toList]at this;exact⟨s,hs,this⟩
def Zem{k:IntKind}{t:TypeId}{m:Nat}(hu:prog.underlying t=some (.int k))(h0:k.min=0)(hm:k.max=(m:Int))(h:Trd enc prog W fuel t cs=some x):∃u:Nat,cs=[.int k u]/\u<=m:=by
 obtain⟨n,h1,-,hw⟩:=DataW.trod_int hu h;simp only[Lit.wf,Bool.and_eq_true,decide_eq_true_eq]at hw;rw[h0,hm]at hw;obtain⟨u,rfl⟩:=Int.eq_ofNat_of_zero_le hw.1;exact⟨u,h1,by omega⟩
def Zuv(h:Trd enc prog W fuel 5 [v]=some x):∃u:Nat,v=.int .u8 u/\u<256:=by
 obtain⟨u,h1,h2⟩:=Zem (m:=255) Zpn (by decide) (by decide) h;exact⟨u,by simpa using h1,by omega⟩
def Zug{T:Type}(U:Qa T)(a:Option Addr)(len:Nat)(l:List Nat):Prop:=Qx U a len 1 l λ n vs=>vs=[.int .u16 (n:Int)]/\n<65536
def Zud(h:Trd enc prog W fuel 33 [v]=some x)(hz:Sz prog 33 x.1):∃a len cap l,v=.slice a len cap/\Zug (Qa.all W) a len l/\len<2^60:=by
 obtain⟨a,len,cap,l,h1,h2,h3⟩:=Qdv (R:=λ(n:Nat)vs=>vs=[.int .u16 (n:Int)]/\n<65536) Zm2 Qwj (by decide) Qwf h hz λ m r y hy _=>by
  obtain⟨u,h1,h2⟩:=Zem (m:=65535) Zio (by decide) (by decide) hy;exact⟨u,h1,by omega⟩
 exact⟨a,len,cap,l,h1,h2,h3⟩
end
def Qyh:List UInt8:=[40,116,111,117,99,104,109,97,114,107,47,114,105,118,97,108,46,98,111,111,107,41,46,114,105,103,104,116,115]
def Qyi:List UInt8:=[40,116,111,117,99,104,109,97,114,107,47,114,105,118,97,108,46,98,111,111,107,41,46,99,97,115,101,115]
def Qyg:List UInt8:=[40,116,111,117,99,104,109,97,114,107,47,114,105,118,97,108,46,98,111,111,107,41,46,108,111,111,112,115]
abbrev Qiq:List (String×DataW Unit):=YtcakpkianonbkaaGreatDoor.Rows.rivalLateRow.laid
noncomputable def Qxq:String:=(YtcakpkianonbkaaGreatDoor.Rows.rivalLateRow.named[0]?).getD Tryz.f6.name
def Q4o:((range prog.funcs.size).filter λ f=>(prog.funcs[f]?).any (·.name.toUTF8.data.toList==Qyh))=[191]:=by kernel_rfl
def Q4p:((range prog.funcs.size).filter λ f=>(prog.funcs[f]?).any (·.name.toUTF8.data.toList==Qyi))=[192]:=by kernel_rfl
def Q4n:((range prog.funcs.size).filter λ f=>(prog.funcs[f]?).any (·.name.toUTF8.data.toList==Qyg))=[91]:=by kernel_rfl
def Q26:prog.globalNamed Qxq=some 0:=by kernel_rfl
def Zma:(prog.globals[0]?).map (·.type)=some 151:=by kernel_rfl
def Qz2:prog.cellsOf 150=1:=by kernel_rfl
def Qwh:prog.cellsOf 151=3:=by kernel_rfl
def fnB(P:Program)(t:TypeId):Bool:=match P.underlying t with|some (.func _ _ _)=>true|_=>false
def Ztm{P:Program}{t:TypeId}(h:fnB P t=true):∃ps rs va,P.underlying t=some (.func ps rs va):=by
 unfold fnB at h;split at h
 .rename_i ps rs va hu;exact⟨ps,rs,va,hu⟩
 .cases h
def Zhc:fnB prog 150=true:=by kernel_rfl
def Zro{W:World}(h:laidMetH prog Qiq W):Chk (Qa.all W):=by
 obtain⟨g,t,cs,fuel,p,hg,ht,hv,hd⟩:=h.funcs (n:=Qxq) (mem_cons_of_mem _ (mem_cons_self ..));obtain rfl:=Option.some.inj (Q26.symm.trans hg);obtain rfl:=Option.some.inj (Zma.symm.trans ht);have hd':DataW.trod (funcToken prog) prog W 0 (λ _=>true) true fuel 151 cs.toList=some (.agg [.held Qyh,.held Qyi,.held Qyg],p):=hd;obtain⟨xs,m,-,hx,hl,hxl,hel⟩:=DataW.trod_array Qiv hd';rw[Qwh]at hl;obtain⟨v0,v1,v2,e⟩:=Qi3 hl;obtain⟨x0,x1,x2,rfl⟩:=Qi3 hxl;simp only[Prod.mk.injEq,DataW.agg.injEq,map_cons,map_nil,List.cons.injEq,and_true]at hx;obtain⟨⟨d0,d1,d2⟩,-⟩:=hx;obtain⟨ps,rs,va,hu⟩:=Ztm Zhc;have h0:=hel 0 (by omega);have h1:=hel 1 (by omega);have h2:=hel 2 (by omega);rw[e,Qz2]at h0 h1 h2;obtain⟨q0,r0⟩:=x0;obtain⟨q1,r1⟩:=x1;obtain⟨q2,r2⟩:=x2;simp only at d0 d1 d2;subst d0 d1 d2;have f0:v0=.func (.func 191) #[] #[]:=Go.func_of_trod (b:=40) (f0:=191) hu Q4o h0;have f1:v1=.func (.func 192) #[] #[]:=Go.func_of_trod (b:=40) (f0:=192) hu Q4p h1;have f2:v2=.func (.func 91) #[] #[]:=Go.func_of_trod (b:=40) (f0:=91) hu Q4n h2
 have hcs:cs=Zq9:=by
  apply Array.ext';rw[e,f0,f1,f2];rfl
 unfold World.var? at hv;rw[Q26]at hv;simp only[Option.bind_some]at hv;split at hv
 .rename_i c t fr hb;cases hv;exact⟨t,fr,by rw[<- hcs];exact hb⟩
 .cases hv
def Zo5(os:Os)(args:Array Value):laidMetH prog Qiq ((World.doorLaid prog 200 os).forCall (λ _ _=>0) ⟨#[],args,[]⟩).memory:=
 laidMetH_of_parts3 (fuel:=8) (laidMet_of_run' 8 (by kernel_rfl) (by kernel_rfl)) (by kernel_rfl) (by kernel_rfl)
end Go.Proofs
end
