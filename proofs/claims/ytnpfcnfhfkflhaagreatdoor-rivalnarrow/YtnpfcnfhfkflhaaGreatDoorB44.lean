/- Lemmas of the proof. No conditions of their own. -/
import Derived.Test.YtnpfcnfhfkflhaaGreatDoorTie
import Derived.Test.YtnpfcnfhfkflhaaGreatDoorCards
import Derived.LaidMore
import Derived.Test.YtnpfcnfhfkflhaaGreatDoorB43
set_option linter.all false
open List
open Go.Proofs.Tryz (prog)
set_option maxRecDepth 100000
noncomputable section
namespace Go.TM
theorem Q5.all {T:Type} {U:Qa T} {a:Option Addr} {len n:Nat} {α:Type} {l:List α} {R:α->List Value->Prop} (h:Q5 U a len n l R):∀x∈l,∃r,R x r:=λ x hx=>by
 obtain⟨i,hi⟩:=getElem?_of_mem hx;obtain⟨_,r,_,_,hr,_⟩:=h.2 i x hi;exact⟨r,hr⟩
theorem Zck {α:Type} {l:List α} (h:l.length=2):∃a b,l=[a,b]:=by
 cases l with
 | nil=>simp at h
 | cons a r=>obtain⟨b,rfl⟩:=length_eq_one_iff.1 (by simpa using h);simp_all
theorem Qnw {α:Type} {l:List α} (h:l.length=3):∃a b c,l=[a,b,c]:=by
 cases l with
 | nil=>simp at h
 | cons a r=>simp_all[Zck]
theorem Zj7 {α:Type} {l:List α} (h:l.length=4):∃a b c d,l=[a,b,c,d]:=by
 cases l with
 | nil=>simp at h
 | cons a r=>simp_all[Qnw]
theorem Q5.ints {T:Type} {U:Qa T} {a:Option Addr} {len:Nat} {l:List Int} (h:Q5 U a len 1 l λ n vs=>vs=[.int .i64 n]):Z5 U a len l:=by
 refine⟨h.1,λ i x hx=>?_⟩;obtain⟨ad,vs,ha,hs,rfl,-,hr⟩:=h.2 i x hx;have:=hr 0 _ rfl;grind[Addr.add]
theorem Zkt {H:Type} {enc:TypeId×Value->H} {P:Program} {W:World} {t e:TypeId} {fuel:Nat} {x:DataW H×List MemPlace} {a:Option Addr} {len cap:Nat}
  (hu:P.underlying t=some (.slice e)) (h:Trd enc P W fuel t [.slice a len cap]=some x):len<=cap:=by
 rcases DataW.trod_slice hu h with⟨hc,hx⟩ | ⟨a',len',cap',elems,rest,m,_,hc,hx,hh⟩
 .simp only [List.cons.injEq,and_true,Value.slice.injEq] at hc;omega
 simp_all
end Go.TM
namespace Go.Proofs
open Go.TM Go.ChangeShapes Go.WideShapes Go.RowKit
section
variable {H:Type} {enc:TypeId×Value->H} {W:World} {fuel:Nat} {x:DataW H×List MemPlace} {v:Value} {cs:List Value}
theorem Zku {k:IntKind} {t:TypeId} (hu:prog.underlying t=some (.int k)) (h:Trd enc prog W fuel t cs=some x):∃n,cs=[.int k n]:=by
 grind[DataW.trod_int]
theorem Zb1:prog.underlying 3=some (.int .i64):=by kernel_rfl
theorem Zpl:prog.underlying 4=some .bool:=by kernel_rfl
theorem Zpm:prog.underlying 5=some (.int .u8):=by kernel_rfl
theorem Zlc:prog.underlying 9=some .string:=by kernel_rfl
theorem Q28:prog.underlying 22=some (.slice 9):=by kernel_rfl
theorem Q29:prog.underlying 23=some (.slice 49):=by kernel_rfl
theorem Q3a:prog.underlying 26=some (.slice 3):=by kernel_rfl
theorem Zi5:prog.underlying 47=some (.slice 26):=by kernel_rfl
def Qqb (P:Program) (t:TypeId) (l:List (TypeId×Nat)):Bool:=match P.underlying t with | some (.struct fs)=>(fs.toList.map λ f=>(f.type,f.offset)) == l | _=>false
theorem Qxu {P:Program} {t:TypeId} {l:List (TypeId×Nat)} (h:Qqb P t l=true):∃fs,P.underlying t=some (.struct fs)/\∀(i:Nat) (ft off:Nat),l[i]?=some (ft,off)->(fs[i]?).map (λ f=>(f.type,f.offset))=some (ft,off):=by
 unfold Qqb at h;grind
theorem Zej:Qqb prog 25 [(22,0),(23,1)]=true:=by kernel_rfl
theorem Zek:Qqb prog 49 [(9,0),(3,1),(47,2),(26,3)]=true:=by kernel_rfl
theorem Qod:prog.cellsOf 3=1:=by kernel_rfl
theorem Qoe:prog.cellsOf 9=1:=by kernel_rfl
theorem Qyo:prog.cellsOf 22=1:=by kernel_rfl
theorem Qyp:prog.cellsOf 23=1:=by kernel_rfl
theorem Qyq:prog.cellsOf 25=2:=by kernel_rfl
theorem Qjm:prog.cellsOf 26=1:=by kernel_rfl
theorem Qyr:prog.cellsOf 47=1:=by kernel_rfl
theorem Qjn:prog.cellsOf 49=4:=by kernel_rfl
theorem Q1m:0<prog.bytesOf 3:=of_decide_eq_true (by kernel_rfl)
theorem Q1n:0<prog.bytesOf 9:=of_decide_eq_true (by kernel_rfl)
theorem Qym:0<prog.bytesOf 26:=of_decide_eq_true (by kernel_rfl)
theorem Qyn:0<prog.bytesOf 49:=of_decide_eq_true (by kernel_rfl)
theorem Sz.str50 {P:Program} {t:TypeId} {l:List UInt8} (h:Sz P t (.lit (.string l):DataW H)):l.length<2 ^ 50:=by
 have:=h _ (by simp [DataW.weights];rfl);grind[reachBytes,decide]
theorem Zcy (h:Trd enc prog W fuel 26 [v]=some x) (hz:Sz prog 26 x.1):∃a len cap l,v=.slice a len cap/\Z5 (Qa.all W) a len l/\len<2 ^ 60:=by
 obtain⟨a,len,cap,l,h1,h2,h3⟩:=Qls (R:=λ (n:Int) vs=>vs=[.int .i64 n]) Q3a Qod (by decide) Q1m h hz λ m r y hy _=>Zku Zb1 hy;exact⟨a,len,cap,l,h1,h2.ints,h3⟩
theorem Zkw {m:Nat} {r:List Value} {y:DataW H×List MemPlace} (h:Trd enc prog W m 9 r=some y) (hz:Sz prog 9 y.1):∃s:ByteArray,r=[.string s]/\s.size<2 ^ 50:=by
 obtain⟨s,hs,rfl,-⟩:=DataW.trod_string Zlc h;have:=Sz.str50 hz;simp_all
theorem Zkv (h:Trd enc prog W fuel 47 [v]=some x) (hz:Sz prog 47 x.1):∃a len cap ls,v=.slice a len cap/\J3 (Qa.all W) a len ls/\len<2 ^ 60:=
 Qls (R:=λ (l:List Int) vs=>∃a' len' cap',vs=[.slice a' len' cap']/\Z5 (Qa.all W) a' len' l/\len'<2 ^ 60) Zi5 Qjm (by decide) Qym h hz λ m r y hy hz=>by
  have hl:r.length=1:=by
   rcases DataW.trod_slice Q3a hy with⟨hc,-⟩ | ⟨_,_,_,_,_,_,_,hc,-⟩ <;> rw [hc] <;> rfl
  obtain⟨c0,rfl⟩:=length_eq_one_iff.1 hl;grind[Zcy]
theorem Zmt {m:Nat} {r:List Value} {y:DataW H×List MemPlace} (h:Trd enc prog W m 49 r=some y) (hz:Sz prog 49 y.1) :
  ∃c:Cs,Qqj (Qa.all W) c r/\c.nm.size<2 ^ 50:=by
 obtain⟨fs,hu,hfs⟩:=Qxu Zek;obtain⟨hl,m',hf⟩:=Q4p hu h hz;rw [Qjn] at hl;obtain⟨c0,c1,c2,c3,rfl⟩:=Zj7 hl;obtain⟨y0,h0,z0⟩:=Qid (i:=0) (ft:=9) (off:=0) hf (hfs 0 _ _ rfl) Qoe;obtain⟨y1,h1,z1⟩:=Qid (i:=1) (ft:=3) (off:=1) hf (hfs 1 _ _ rfl) Qod;obtain⟨y2,h2,z2⟩:=Qid (i:=2) (ft:=47) (off:=2) hf (hfs 2 _ _ rfl) Qyr;obtain⟨y3,h3,z3⟩:=Qid (i:=3) (ft:=26) (off:=3) hf (hfs 3 _ _ rfl) Qjm;simp only [drop_zero,drop_succ_cons,take_succ_cons,take_zero] at h0 h1 h2 h3;obtain⟨s,e0,hs⟩:=Zkw h0 z0;obtain⟨n,e1⟩:=Zku Zb1 h1;obtain⟨ga,gl,gc,gs,e2,hg,hgl⟩:=Zkv h2 z2;obtain⟨aa,al,ac,af,e3,ha,hal⟩:=Zcy h3 z3;simp only [List.cons.injEq,and_true] at e0 e1;subst e0 e1 e2 e3;exact⟨⟨s,n,gs,af⟩,⟨ga,gl,gc,aa,al,ac,rfl,hg,hgl,ha,hal⟩,hs⟩
theorem Zpn {c:Array Value} (h:Trd enc prog W fuel 25 c.toList=some x) (hz:Sz prog 25 x.1) :
  ∃(h:BH) (b:Bk),Value.agg c=h.v/\Zq (Qa.all W) h b/\(∀s∈b.rs,s.size<2 ^ 50)/\(∀c∈b.cs,c.nm.size<2 ^ 50)/\h.rl<=h.rc/\h.cl<=h.cc:=by
 obtain⟨fs,hu,hfs⟩:=Qxu Zej;obtain⟨hl,m',hf⟩:=Q4p hu h hz;rw [Qyq] at hl;obtain⟨c0,c1,hc⟩:=Zck hl;rw [hc] at hf;obtain⟨y0,h0,z0⟩:=Qid (i:=0) (ft:=22) (off:=0) hf (hfs 0 _ _ rfl) Qyo;obtain⟨y1,h1,z1⟩:=Qid (i:=1) (ft:=23) (off:=1) hf (hfs 1 _ _ rfl) Qyp;simp only [drop_zero,drop_succ_cons,take_succ_cons,take_zero] at h0 h1;obtain⟨ra,rl,rc,rs,rfl,r1,r2⟩:=Qls (R:=λ (s:ByteArray) r=>r=[.string s]/\s.size<2 ^ 50) Q28 Qoe (by decide) Q1n h0 z0 λ m r y hy hz=>Zkw hy hz;obtain⟨ca,cl,cc,css,rfl,c1,c2⟩:=Qls (R:=λ (c:Cs) r=>Qqj (Qa.all W) c r/\c.nm.size<2 ^ 50) Q29 Qjn (by decide) Qyn h1 z1 λ m r y hy hz=>Zmt hy hz;have hr:∀s∈rs,s.size<2 ^ 50:=λ s hs=>let ⟨_,h⟩:=r1.all s hs;h.2;have hcn:∀c∈css,c.nm.size<2 ^ 50:=λ s hs=>let ⟨_,h⟩:=c1.all s hs;h.2;refine⟨⟨ra,rl,rc,ca,cl,cc⟩,⟨rs,css⟩,by rw [<- Array.toArray_toList (xs:=c),hc],⟨r1.le (.refl _) λ _ _ h=>h.1,c1.le (.refl _) λ _ _ h=>h.1,r2,c2,λ s hs=>Nat.lt_of_lt_of_le (hr s hs) (by decide),λ s hs=>Nat.lt_of_lt_of_le (hcn s hs) (by decide)⟩,hr,hcn,Zkt Q28 h0,Zkt Q29 h1⟩
end
def Qw1:List UInt8:=[40,116,111,117,99,104,109,97,114,107,47,114,105,118,97,108,46,98,111,111,107,41,46,114,105,103,104,116,115]
def Qw2:List UInt8:=[40,116,111,117,99,104,109,97,114,107,47,114,105,118,97,108,46,98,111,111,107,41,46,99,97,115,101,115]
def Qw0:List UInt8:=[40,116,111,117,99,104,109,97,114,107,47,114,105,118,97,108,46,98,111,111,107,41,46,108,111,111,112,115]
abbrev Qwz:List (String×DataW Unit):=YtnpfcnfhfkflhaaGreatDoor.Rows.rivalOrdersRow.laid
def Tryz.chkN:String:=(YtnpfcnfhfkflhaaGreatDoor.Rows.rivalOrdersRow.named[0]?).getD Tryz.f20.name
theorem Q2k:((range prog.funcs.size).filter λ f=>(prog.funcs[f]?).any (·.name.toUTF8.data.toList == Qw1))=[275]:=by kernel_rfl
theorem Q2l:((range prog.funcs.size).filter λ f=>(prog.funcs[f]?).any (·.name.toUTF8.data.toList == Qw2))=[276]:=by kernel_rfl
theorem Q2j:((range prog.funcs.size).filter λ f=>(prog.funcs[f]?).any (·.name.toUTF8.data.toList == Qw0))=[101]:=by kernel_rfl
theorem Q1t:prog.globalNamed Tryz.chkN=some 0:=by kernel_rfl
theorem Zie:(prog.globals[0]?).map (·.type)=some 100:=by kernel_rfl
theorem Qys:prog.cellsOf 99=1:=by kernel_rfl
theorem Qu3:prog.cellsOf 100=3:=by kernel_rfl
def fnB (P:Program) (t:TypeId):Bool:=match P.underlying t with | some (.func _ _ _)=>true | _=>false
theorem Zoz {P:Program} {t:TypeId} (h:fnB P t=true):∃ps rs va,P.underlying t=some (.func ps rs va):=by
 grind[fnB]
theorem Zel:fnB prog 99=true:=by kernel_rfl
theorem Zm9 {W:World} (h:laidMetH prog Qwz W):Chk (Qa.all W):=by
 obtain⟨g,t,cs,fuel,p,hg,ht,hv,hd⟩:=h.funcs (n:=Tryz.chkN) (mem_cons_self ..);obtain rfl:=Option.some.inj (Q1t.symm.trans hg);obtain rfl:=Option.some.inj (Zie.symm.trans ht);have hd':DataW.trod (funcToken prog) prog W 0 (λ _=>true) true fuel 100 cs.toList=some (.agg [.held Qw1,.held Qw2,.held Qw0],p):=hd;obtain⟨xs,m,-,hx,hl,hxl,hel⟩:=DataW.trod_array Qhy hd';rw [Qu3] at hl;obtain⟨v0,v1,v2,e⟩:=Qnw hl;obtain⟨x0,x1,x2,rfl⟩:=Qnw hxl;simp only [Prod.mk.injEq,DataW.agg.injEq,map_cons,map_nil,List.cons.injEq,and_true] at hx;obtain⟨⟨d0,d1,d2⟩,-⟩:=hx;obtain⟨ps,rs,va,hu⟩:=Zoz Zel;have h0:=hel 0 (by omega);have h1:=hel 1 (by omega);have h2:=hel 2 (by omega);rw [e,Qys] at h0 h1 h2;obtain⟨q0,r0⟩:=x0;obtain⟨q1,r1⟩:=x1;obtain⟨q2,r2⟩:=x2;simp only at d0 d1 d2;subst d0 d1 d2;have f0:v0=.func (.func 275) #[] #[]:=Go.func_of_trod (b:=40) (f0:=275) hu Q2k h0;have f1:v1=.func (.func 276) #[] #[]:=Go.func_of_trod (b:=40) (f0:=276) hu Q2l h1;have f2:v2=.func (.func 101) #[] #[]:=Go.func_of_trod (b:=40) (f0:=101) hu Q2j h2
 have hcs:cs=Zmr:=by
  apply Array.ext';rw [e,f0,f1,f2];rfl
 unfold World.var? at hv;rw [Q1t] at hv;simp only [Option.bind_some] at hv;split at hv
 .rename_i c t fr hb;cases hv;exact⟨t,fr,by rw [<- hcs];exact hb⟩
 .cases hv
theorem Zk6 (os:Os) (args:Array Value):laidMetH prog Qwz ((World.doorLaid prog 200 os).forCall (λ _ _=>0) ⟨#[],args,[]⟩).memory:=
 laidMetH_of_parts3 (fuel:=8) (laidMet_of_run' 8 (by kernel_rfl) (by kernel_rfl)) (by kernel_rfl) (by kernel_rfl)
end Go.Proofs
end
