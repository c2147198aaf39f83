/- Lemmas. No conditions. -/
import Derived.Test.YtnpfcnfhfkflhaaGreatDoorB37
set_option linter.all false
open List
namespace Go.TM
section
variable{κ:Type}[DecidableEq κ]
def QH(l:List (κ×Nat)):List (κ×Value):=l.map λ p=>(p.1,.int .i64 (p.2:Nat))
def WF(k:κ):List (κ×Nat)->List (κ×Nat)
 |[]=>[(k,1)]
 |p::l=>if k=p.1 then(p.1,p.2+1)::l else p::WF k l
def JC(k:κ):List (κ×Nat)->Nat
 |[]=>0
 |p::l=>if k=p.1 then p.2 else JC k l
def II(k:κ):∀(l:List (κ×Nat))(i:Nat),((QM k (QH l) i).map (·.2)).getD (.int .i64 0)=.int .i64 (JC k l:Nat)
 |[],_=>rfl
 |p::l,i=>by
  simp only[QH,map_cons,QM,JC];by_cases e:k=p.1
  .simp[e]
  .rw[if_neg e,if_neg e];exact II k l (i+1)
def Yu(k:κ)(l:List (κ×Nat)):(lk k (QH l)).getD (.int .i64 0)=.int .i64 (JC k l:Nat):=II k l 0
def L0(k:κ):∀(l:List (κ×Nat)),ZF k (.int .i64 (JC k l+1:Nat)) (QH l)=QH (WF k l)
 |[]=>rfl
 |p::l=>by
  simp only[QH,map_cons,ZF,JC,WF];by_cases e:k=p.1
  .simp[e]
  .rw[if_neg e,if_neg e,if_neg e];have:=L0 k l;simp only[QH]at this;rw[this];rfl
def zO(l:List (κ×Nat)):(QH l).length=l.length:=by simp[QH]
def XC(q:κ->Bool)(l:List (κ×Nat)):Nat:=(l.map λ p=>if q p.1 then p.2 else 0).sum
def E_(q:κ->Bool)(k:κ):∀l:List (κ×Nat),XC q (WF k l)=XC q l+if q k then 1 else 0
 |[]=>by simp[WF,XC]
 |p::l=>by
  simp only[WF];by_cases e:k=p.1
  .subst e;rw[if_pos rfl];simp only[XC,map_cons,sum_cons];by_cases h:q p.1 <;> simp[h];omega
  .rw[if_neg e];have:=E_ q k l;simp only[XC,map_cons,sum_cons]at this ⊢;omega
def Xw(b:List κ):List (κ×Nat):=b.foldl (λ l k=>WF k l) []
def Ix(b:List κ)(k:κ):Xw (b++[k])=WF k (Xw b):=by simp[Xw]
def IJ(k:κ):∀l:List (κ×Nat),(WF k l).length<=l.length+1
 |[]=>by simp[WF]
 |p::l=>by
  simp only[WF];split
  .simp
  .have:=IJ k l;simp;omega
def DS{N:Nat}(k:κ):∀l:List (κ×Nat),(∀p∈l,p.2<=N)->∀p∈WF k l,p.2<=N+1
 |[],_,p,b=>by simp[WF]at b;subst b;simp
 |q::l,h,p,b=>by
  simp only[WF]at b;split at b
  .rcases mem_cons.1 b with rfl|b
   .have:=h q (mem_cons_self ..);simp;exact this
   .have:=h p (mem_cons_of_mem _ b);omega
  .rcases mem_cons.1 b with rfl|b
   .have:=h p (mem_cons_self ..);omega
   .exact DS k l (λ p b=>h p (mem_cons_of_mem _ b)) p b
def pZ:∀(n:Nat)(e:List κ),e.length=n->(Xw e).length<=n/\(∀p∈Xw e,p.2<=n)/\∀q:κ->Bool,XC q (Xw e)=e.countP q:=by
 intro n
 induction n with
 |zero=>
  intro e h;obtain rfl:=length_eq_zero_iff.1 h;exact⟨by simp[Xw],by simp[Xw],λ q=>by simp[Xw,XC]⟩
 |succ n E=>
  intro e h
  obtain⟨f,k,rfl⟩:∃f k,e=f++[k]:=by
   rcases eq_nil_or_concat e with rfl|⟨a,b,rfl⟩
   .simp at h
   .exact⟨a,b,S1⟩
  have w:f.length=n:=by simpa using h
  obtain⟨F,z,B⟩:=E f w;rw[Ix];refine⟨Nat.le_trans (IJ k _) O1,DS k _ z,λ q=>?_⟩;rw[E_,B,countP_append];simp
def Ii{N:Nat}(k:κ):∀l:List (κ×Nat),(∀p∈l,p.2<=N)->JC k l<=N
 |[],_=>by simp[JC]
 |p::l,h=>by
  simp only[JC];split
  .exact h p (mem_cons_self ..)
  .exact Ii k l λ p b=>h p (mem_cons_of_mem _ b)
def Xi(q:κ->Bool)(l:List (κ×Nat))(seen:List Nat):Nat:=(seen.map λ i=>match l[i]? with|some p=>if q p.1 then p.2 else 0|none=>0).sum
def Af{q:κ->Bool}{l:List (κ×Nat)}{seen:List Nat}(f:seen.Nodup)(e:∀i∈seen,i<l.length)(b:∀i,i<l.length->i∈seen):Xi q l seen=XC q l:=by
 have w:seen.Perm (range l.length):=(perm_ext_iff_of_nodup f nodup_range).2 λ i=>by
  rw[mem_range];exact⟨e i,b i⟩
 unfold Xi;rw[(w.map _).sum_nat];unfold XC;congr 1;apply ext_getElem?;intro i;rw[getElem?_map,getElem?_map];by_cases h:i<l.length
 .rw[getElem?_range h,getElem?_eq_getElem h];simp[getElem?_eq_getElem h]
 .rw[getElem?_eq_none S3,getElem?_eq_none O1];rfl
def FZ{q:κ->Bool}{l:List (κ×Nat)}{N:Nat}(h:∀p∈l,p.2<=N):∀seen:List Nat,Xi q l seen<=seen.length*N
 |[]=>by simp[Xi]
 |i::s=>by
  have:=FZ (q:=q) h s;simp only[Xi,map_cons,sum_cons,length_cons,Nat.add_mul,Nat.one_mul]at this ⊢
  have e:(match l[i]? with|some p=>if q p.1 then p.2 else 0|none=>0)<=N:=by
   cases b:l[i]? with
   |none=>simp
   |some p=>
    simp only;split
    .exact h p (mem_of_getElem? b)
    .omega
  omega
end
abbrev WN:={ l:List Bool // l.length=6 }
def six(s:Nat->Bool):WN:=⟨(range 6).map s,S1⟩
def Ib(s:Nat->Bool){j:Nat}(h:j<6):W1 (six s).1 j=s j:=by
 simp only[W1,six,getD_eq_getElem?_getD,getElem?_map,getElem?_range h];rfl
def HA(k:WN):List Value:=QO (W1 k.1)
def kW(s:Nat->Bool):HA (six s)=QO s:=I5 λ j h=>Ib s h
def oS{k k':WN}(h:∀j,j<6->W1 k.1 j=W1 k'.1 j):k=k':=by
 apply Subtype.ext;apply ext_getElem
 .rw[k.2,k'.2]
 .intro i h1 h2;have:=h i (by rw[k.2]at h1;exact h1);simp only[W1,getD_eq_getElem?_getD,getElem?_eq_getElem h1,getElem?_eq_getElem h2,Option.getD_some]at this;exact this
def Br(k k':WN):ZJ (HA k) (HA k')=decide (k=k'):=by
 rw[Bool.eq_iff_iff,decide_eq_true_eq];unfold HA;rw[D7];exact⟨oS,λ h=>by subst h;exact λ _ _=>rfl⟩
variable{T:Type}{P:Program}{S:Sys P T}{f:Fm}{K:Value->Qa T->Prop}{U:Qa T}
def Mk{m e:Nat}{ep:Bool}{d:TypeDesc}{z:TypeInfo}(B:P.underlying e=some d)(E:WU d=true)(w:P.info? e=some z)(b:z.size=1){xs:Array Value}{Q:PUnit->Qa T->Prop}:∀(n j:Nat)(vs:List Value),vs.length=n->(∀i v,vs[i]?=some v->xs[j+i]?=some v)->Q () U ->
  Qr P (forIn (List.range' j n 1) PUnit.unit λ i _=>do
    let s <- sizeOf e
    let a <- part e xs (i*s)
    Instr.checkKey ep (m+1) e a
    pure (ForInStep.yield PUnit.unit)) Q U
 |0,j,vs,G,_,h=>h
 |n+1,j,v::vs,G,H,h=>by
  rw[range'_succ,V7];simp only[Qd,Jh w,b,Nat.mul_one];have F:xs[j]?=some v:=by simpa using H 0 v rfl
  rw[GJ B E F]
  have f:∀Q:Unit->Qa T->Prop,Qr P (Instr.checkKey ep (m+1) e v) Q U=Q () U:=λ Q=>by
   rw[Instr.checkKey];simp only[Qd,Zg B];cases d <;> simp[WU]at E <;> rfl
  rw[f];simp only[Qk];have:=Mk (m:=m) (ep:=ep) B E w b (xs:=xs) (Q:=Q) n (j+1) vs (by simpa using G) (λ i v w=>by have:=H (i+1) v w;rwa [show j+(i+1)=j+1+i by omega]at this) h;simpa only[Qd,Jh w,b,Nat.mul_one]using this
def WJ.arr{z e len:Nat}{d:TypeDesc}{E:TypeInfo}{κ:Type}[DecidableEq κ]{enc:κ->List Value}(H:P.underlying z=some (.array len e))(I:P.underlying e=some d)(K:WU d=true)(w:P.info? e=some E)(B:E.size=1)
  (b:∀k,(enc k).length=len) (f:∀k,∀v∈enc k,X7 d v=true) (M:∀k k',ZJ (enc k) (enc k')=decide (k=k')) (F:∀k,Instr.sameBits 10000 (.agg (enc k).toArray) (.agg (enc k).toArray)=true) :
  WJ T P z (λ k=>.agg (enc k).toArray):=by
 refine⟨λ e' k Q U h=>?_,λ k l Q U h=>?_,F⟩
 .have:∀m,Qr P (Instr.checkKey e' (m+1+1) z (.agg (enc k).toArray)) Q U:=λ m=>by
   rw[Instr.checkKey];simp only[Qd,Zg H,Std.Legacy.Range.forIn_eq_forIn_range'];have:=Mk (m:=m) (ep:=e') I K w B (xs:=(enc k).toArray) (Q:=λ _ U=>Qr P (pure ():Sem Unit) Q U) len 0 (enc k) (b k) (λ i v w=>by simpa using w) h;simpa[Std.Legacy.Range.size,Qd]using this
  exact this 9998
 .unfold Instr.findKey;simp only[Qd,Zg H];cases l with
  |nil=>exact h
  |cons p l=>
   rw[M0 (enc:=λ k=>Value.agg (enc k).toArray) (λ _ _=>rfl)]
   have G:∀k k'{Q:Bool->Qa T->Prop}{U:Qa T},Q (decide (k=k')) U->Qr P (Op.equal z (.agg (enc k).toArray) (.agg (enc k').toArray)) Q U:=by
    intro k k' Q U N;have L:Op.equal z (.agg (enc k).toArray) (.agg (enc k').toArray)=Op.equalIn (9998+1+1) z (.agg (enc k).toArray) (.agg (enc k').toArray):=rfl;rw[L,Op.equalIn];simp only[Qd,Zg H,Jh w,B,Std.Legacy.Range.forIn_eq_forIn_range'];refine SM I K _ 0 (enc k) (enc k') (by simpa[Std.Legacy.Range.size]using b k) (by simpa[Std.Legacy.Range.size]using b k') (f k) (f k') (λ i v w=>by simpa using w) (λ i v w=>by simpa using w) ?_;rw[M];cases F:decide (k=k') <;> simpa[F,Qk]using N
   exact ON G k (p::l) 0 0 h
end Go.TM

