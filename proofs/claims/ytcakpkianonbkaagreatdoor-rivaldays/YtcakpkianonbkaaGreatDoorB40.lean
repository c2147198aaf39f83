/- Lemmas. No conditions. -/
import Derived.Test.YtcakpkianonbkaaGreatDoorB38
set_option linter.all false
open List
namespace Go.TM
section
variable{κ:Type}[DecidableEq κ]
def QH(l:List (κ×Nat)):List (κ×Value):=l.map λ p=>(p.1,.int .i64 (p.2:Nat))
def WF(k:κ):List (κ×Nat)->List (κ×Nat)
 |[]=>[(k,1)]
 |p::l=>if k=p.1 then(p.1,p.2+1)::l else p::WF k l
def JG(k:κ):List (κ×Nat)->Nat
 |[]=>0
 |p::l=>if k=p.1 then p.2 else JG k l
def N6(k:κ):∀(l:List (κ×Nat))(i:Nat),((QM k (QH l) i).map (·.2)).getD (.int .i64 0)=.int .i64 (JG k l:Nat)
 |[],_=>rfl
 |p::l,i=>by
  simp only[QH,map_cons,QM,JG];by_cases e:k=p.1
  .simp[e]
  .rw[if_neg e,if_neg e];exact N6 k l (i+1)
def VR(k:κ)(l:List (κ×Nat)):(lk k (QH l)).getD (.int .i64 0)=.int .i64 (JG k l:Nat):=N6 k l 0
def Nk(k:κ):∀(l:List (κ×Nat)),ZC k (.int .i64 (JG k l+1:Nat)) (QH l)=QH (WF k l)
 |[]=>rfl
 |p::l=>by
  simp only[QH,map_cons,ZC,JG,WF];by_cases e:k=p.1
  .simp[e]
  .rw[if_neg e,if_neg e,if_neg e];have:=Nk k l;simp only[QH]at this;rw[this];rfl
def dE(l:List (κ×Nat)):(QH l).length=l.length:=by simp[QH]
def H2(q:κ->Bool)(l:List (κ×Nat)):Nat:=(l.map λ p=>if q p.1 then p.2 else 0).sum
def Me(q:κ->Bool)(k:κ):∀l:List (κ×Nat),H2 q (WF k l)=H2 q l+if q k then 1 else 0
 |[]=>by simp[WF,H2]
 |p::l=>by
  simp only[WF];by_cases e:k=p.1
  .subst e;rw[if_pos rfl];simp only[H2,map_cons,sum_cons];by_cases h:q p.1 <;> simp[h];omega
  .rw[if_neg e];have:=Me q k l;simp only[H2,map_cons,sum_cons]at this ⊢;omega
def X_(b:List κ):List (κ×Nat):=b.foldl (λ l k=>WF k l) []
def Mx(b:List κ)(k:κ):X_ (b++[k])=WF k (X_ b):=by simp[X_]
def Mv(k:κ):∀l:List (κ×Nat),(WF k l).length<=l.length+1
 |[]=>by simp[WF]
 |p::l=>by
  simp only[WF];split
  .simp
  .have:=Mv k l;simp;omega
def EV{N:Nat}(k:κ):∀l:List (κ×Nat),(∀p∈l,p.2<=N)->∀p∈WF k l,p.2<=N+1
 |[],_,p,b=>by simp[WF]at b;subst b;simp
 |q::l,h,p,b=>by
  simp only[WF]at b;split at b
  .rcases mem_cons.1 b with rfl|b
   .have:=h q (mem_cons_self ..);simp;exact this
   .have:=h p (mem_cons_of_mem _ b);omega
  .rcases mem_cons.1 b with rfl|b
   .have:=h p (mem_cons_self ..);omega
   .exact EV k l (λ p b=>h p (mem_cons_of_mem _ b)) p b
def gS:∀(n:Nat)(e:List κ),e.length=n->(X_ e).length<=n/\(∀p∈X_ e,p.2<=n)/\∀q:κ->Bool,H2 q (X_ e)=e.countP q:=by
 intro n
 induction n with
 |zero=>
  intro e h;obtain rfl:=length_eq_zero_iff.1 h;exact⟨by simp[X_],by simp[X_],λ q=>by simp[X_,H2]⟩
 |succ n F=>
  intro e h
  obtain⟨w,k,rfl⟩:∃w k,e=w++[k]:=by
   rcases eq_nil_or_concat e with rfl|⟨a,b,rfl⟩
   .simp at h
   .exact⟨a,b,S1⟩
  have z:w.length=n:=by simpa using h
  obtain⟨G,B,E⟩:=F w z;rw[Mx];refine⟨Nat.le_trans (Mv k _) O1,EV k _ B,λ q=>?_⟩;rw[Me,E,countP_append];simp
def M_{N:Nat}(k:κ):∀l:List (κ×Nat),(∀p∈l,p.2<=N)->JG k l<=N
 |[],_=>by simp[JG]
 |p::l,h=>by
  simp only[JG];split
  .exact h p (mem_cons_self ..)
  .exact M_ k l λ p b=>h p (mem_cons_of_mem _ b)
def XD(q:κ->Bool)(l:List (κ×Nat))(seen:List Nat):Nat:=(seen.map λ i=>match l[i]? with|some p=>if q p.1 then p.2 else 0|none=>0).sum
def sW{q:κ->Bool}{l:List (κ×Nat)}{seen:List Nat}(w:seen.Nodup)(e:∀i∈seen,i<l.length)(b:∀i,i<l.length->i∈seen):XD q l seen=H2 q l:=by
 have z:seen.Perm (range l.length):=(perm_ext_iff_of_nodup w nodup_range).2 λ i=>by
  rw[mem_range];exact⟨e i,b i⟩
 unfold XD;rw[(z.map _).sum_nat];unfold H2;congr 1;apply ext_getElem?;intro i;rw[getElem?_map,getElem?_map];by_cases h:i<l.length
 .rw[getElem?_range h,getElem?_eq_getElem h];simp[getElem?_eq_getElem h]
 .rw[getElem?_eq_none S3,getElem?_eq_none O1];rfl
def N9{q:κ->Bool}{l:List (κ×Nat)}{N:Nat}(h:∀p∈l,p.2<=N):∀seen:List Nat,XD q l seen<=seen.length*N
 |[]=>by simp[XD]
 |i::s=>by
  have:=N9 (q:=q) h s;simp only[XD,map_cons,sum_cons,length_cons,Nat.add_mul,Nat.one_mul]at this ⊢
  have e:(match l[i]? with|some p=>if q p.1 then p.2 else 0|none=>0)<=N:=by
   cases b:l[i]? with
   |none=>simp
   |some p=>
    simp only;split
    .exact h p (mem_of_getElem? b)
    .omega
  omega
end
abbrev WU:={ l:List Bool // l.length=6 }
def six(s:Nat->Bool):WU:=⟨(range 6).map s,S1⟩
def NF(s:Nat->Bool){j:Nat}(h:j<6):W8 (six s).1 j=s j:=by
 simp only[W8,six,getD_eq_getElem?_getD,getElem?_map,getElem?_range h];rfl
def Hv(k:WU):List Value:=QN (W8 k.1)
def sb(s:Nat->Bool):Hv (six s)=QN s:=Lq λ j h=>NF s h
def dA{k k':WU}(h:∀j,j<6->W8 k.1 j=W8 k'.1 j):k=k':=by
 apply Subtype.ext;apply ext_getElem
 .rw[k.2,k'.2]
 .intro i h1 h2;have:=h i (by rw[k.2]at h1;exact h1);simp only[W8,getD_eq_getElem?_getD,getElem?_eq_getElem h1,getElem?_eq_getElem h2,Option.getD_some]at this;exact this
def uR(k k':WU):ZG (Hv k) (Hv k')=decide (k=k'):=by
 rw[Bool.eq_iff_iff,decide_eq_true_eq];unfold Hv;rw[MA];exact⟨dA,λ h=>by subst h;exact λ _ _=>rfl⟩
variable{T:Type}{P:Program}{S:Sys P T}{f:Fm}{K:Value->Qa T->Prop}{U:Qa T}
def EY{m e:Nat}{ep:Bool}{d:TypeDesc}{B:TypeInfo}(E:P.underlying e=some d)(F:W_ d=true)(z:P.info? e=some B)(b:B.size=1){xs:Array Value}{Q:PUnit->Qa T->Prop}:∀(n j:Nat)(vs:List Value),vs.length=n->(∀i v,vs[i]?=some v->xs[j+i]?=some v)->Q () U ->
  Qr P (forIn (List.range' j n 1) PUnit.unit λ i _=>do
    let s <- sizeOf e
    let a <- part e xs (i*s)
    Instr.checkKey ep (m+1) e a
    pure (ForInStep.yield PUnit.unit)) Q U
 |0,j,vs,H,_,h=>h
 |n+1,j,v::vs,H,I,h=>by
  rw[range'_succ,K7];simp only[Qf,Jj z,b,Nat.mul_one];have G:xs[j]?=some v:=by simpa using I 0 v rfl
  rw[GY E F G]
  have w:∀Q:Unit->Qa T->Prop,Qr P (Instr.checkKey ep (m+1) e v) Q U=Q () U:=λ Q=>by
   rw[Instr.checkKey];simp only[Qf,Zk E];cases d <;> simp[W_]at F <;> rfl
  rw[w];simp only[Qk];have:=EY (m:=m) (ep:=ep) E F z b (xs:=xs) (Q:=Q) n (j+1) vs (by simpa using H) (λ i v z=>by have:=I (i+1) v z;rwa [show j+(i+1)=j+1+i by omega]at this) h;simpa only[Qf,Jj z,b,Nat.mul_one]using this
def WK.arr{B e len:Nat}{d:TypeDesc}{F:TypeInfo}{κ:Type}[DecidableEq κ]{enc:κ->List Value}(I:P.underlying B=some (.array len e))(K:P.underlying e=some d)(L:W_ d=true)(z:P.info? e=some F)(E:F.size=1)
  (b:∀k,(enc k).length=len) (w:∀k,∀v∈enc k,Xf d v=true) (N:∀k k',ZG (enc k) (enc k')=decide (k=k')) (G:∀k,Instr.sameBits 10000 (.agg (enc k).toArray) (.agg (enc k).toArray)=true) :
  WK T P B (λ k=>.agg (enc k).toArray):=by
 refine⟨λ e' k Q U h=>?_,λ k l Q U h=>?_,G⟩
 .have:∀m,Qr P (Instr.checkKey e' (m+1+1) B (.agg (enc k).toArray)) Q U:=λ m=>by
   rw[Instr.checkKey];simp only[Qf,Zk I,Std.Legacy.Range.forIn_eq_forIn_range'];have:=EY (m:=m) (ep:=e') K L z E (xs:=(enc k).toArray) (Q:=λ _ U=>Qr P (pure ():Sem Unit) Q U) len 0 (enc k) (b k) (λ i v z=>by simpa using z) h;simpa[Std.Legacy.Range.size,Qf]using this
  exact this 9998
 .unfold Instr.findKey;simp only[Qf,Zk I];cases l with
  |nil=>exact h
  |cons p l=>
   rw[I5 (enc:=λ k=>Value.agg (enc k).toArray) (λ _ _=>rfl)]
   have H:∀k k'{Q:Bool->Qa T->Prop}{U:Qa T},Q (decide (k=k')) U->Qr P (Op.equal B (.agg (enc k).toArray) (.agg (enc k').toArray)) Q U:=by
    intro k k' Q U S;have M:Op.equal B (.agg (enc k).toArray) (.agg (enc k').toArray)=Op.equalIn (9998+1+1) B (.agg (enc k).toArray) (.agg (enc k').toArray):=rfl;rw[M,Op.equalIn];simp only[Qf,Zk I,Jj z,E,Std.Legacy.Range.forIn_eq_forIn_range'];refine OL K L _ 0 (enc k) (enc k') (by simpa[Std.Legacy.Range.size]using b k) (by simpa[Std.Legacy.Range.size]using b k') (w k) (w k') (λ i v z=>by simpa using z) (λ i v z=>by simpa using z) ?_;rw[N];cases G:decide (k=k') <;> simpa[G,Qk]using S
   exact TD H k (p::l) 0 0 h
end Go.TM

