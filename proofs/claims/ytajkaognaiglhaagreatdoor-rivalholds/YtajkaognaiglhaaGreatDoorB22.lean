/- Lemmas. No conditions. -/
import Derived.Test.YtajkaognaiglhaaGreatDoorB20
set_option linter.all false
open List
namespace Go.TM
section
variable{κ:Type}[DecidableEq κ]
def QH(l:List (κ×Nat)):List (κ×Value):=l.map λ p=>(p.1,.int .i64 (p.2:Nat))
def WF(k:κ):List (κ×Nat)->List (κ×Nat)
 |[]=>[(k,1)]
 |p::l=>if k=p.1 then(p.1,p.2+1)::l else p::WF k l
def JI(k:κ):List (κ×Nat)->Nat
 |[]=>0
 |p::l=>if k=p.1 then p.2 else JI k l
def T7(k:κ):∀(l:List (κ×Nat))(i:Nat),((QM k (QH l) i).map (·.2)).getD (.int .i64 0)=.int .i64 (JI k l:Nat)
 |[],_=>rfl
 |p::l,i=>by
  simp only[QH,map_cons,QM,JI];by_cases e:k=p.1
  .simp[e]
  .rw[if_neg e,if_neg e];exact T7 k l (i+1)
def Kb(k:κ)(l:List (κ×Nat)):(lk k (QH l)).getD (.int .i64 0)=.int .i64 (JI k l:Nat):=T7 k l 0
def Tp(k:κ):∀(l:List (κ×Nat)),ups k (.int .i64 (JI k l+1:Nat)) (QH l)=QH (WF k l)
 |[]=>rfl
 |p::l=>by
  simp only[QH,map_cons,ups,JI,WF];by_cases e:k=p.1
  .simp[e]
  .rw[if_neg e,if_neg e,if_neg e];have:=Tp k l;simp only[QH]at this;rw[this];rfl
def qb(l:List (κ×Nat)):(QH l).length=l.length:=by simp[QH]
def XK(q:κ->Bool)(l:List (κ×Nat)):Nat:=(l.map λ p=>if q p.1 then p.2 else 0).sum
def Dz(q:κ->Bool)(k:κ):∀l:List (κ×Nat),XK q (WF k l)=XK q l+if q k then 1 else 0
 |[]=>by simp[WF,XK]
 |p::l=>by
  simp only[WF];by_cases e:k=p.1
  .subst e;rw[if_pos rfl];simp only[XK,map_cons,sum_cons];by_cases h:q p.1 <;> simp[h];omega
  .rw[if_neg e];have:=Dz q k l;simp only[XK,map_cons,sum_cons]at this ⊢;omega
def XM(e:List κ):List (κ×Nat):=e.foldl (λ l k=>WF k l) []
def Dj(e:List κ)(k:κ):XM (e++[k])=WF k (XM e):=by simp[XM]
def Dh(k:κ):∀l:List (κ×Nat),(WF k l).length<=l.length+1
 |[]=>by simp[WF]
 |p::l=>by
  simp only[WF];split
  .simp
  .have:=Dh k l;simp;omega
def Ei{N:Nat}(k:κ):∀l:List (κ×Nat),(∀p∈l,p.2<=N)->∀p∈WF k l,p.2<=N+1
 |[],_,p,e=>by simp[WF]at e;subst e;simp
 |q::l,h,p,e=>by
  simp only[WF]at e;split at e
  .rcases mem_cons.1 e with rfl|e
   .have:=h q (mem_cons_self ..);simp;exact this
   .have:=h p (mem_cons_of_mem _ e);omega
  .rcases mem_cons.1 e with rfl|e
   .have:=h p (mem_cons_self ..);omega
   .exact Ei k l (λ p e=>h p (mem_cons_of_mem _ e)) p e
def CH:∀(n:Nat)(e:List κ),e.length=n->(XM e).length<=n/\(∀p∈XM e,p.2<=n)/\∀q:κ->Bool,XK q (XM e)=e.countP q:=by
 intro n
 induction n with
 |zero=>
  intro e h;obtain rfl:=length_eq_zero_iff.1 h;exact⟨by simp[XM],by simp[XM],λ q=>by simp[XM,XK]⟩
 |succ n E=>
  intro e h
  obtain⟨f,k,rfl⟩:∃f k,e=f++[k]:=by
   rcases eq_nil_or_concat e with rfl|⟨a,b,rfl⟩
   .simp at h
   .exact⟨a,b,S1⟩
  have w:f.length=n:=by simpa using h
  obtain⟨F,z,B⟩:=E f w;rw[Dj];refine⟨Nat.le_trans (Dh k _) O1,Ei k _ z,λ q=>?_⟩;rw[Dz,B,countP_append];simp
def OV{N:Nat}(k:κ):∀l:List (κ×Nat),(∀p∈l,p.2<=N)->JI k l<=N
 |[],_=>by simp[JI]
 |p::l,h=>by
  simp only[JI];split
  .exact h p (mem_cons_self ..)
  .exact OV k l λ p e=>h p (mem_cons_of_mem _ e)
def Xu(q:κ->Bool)(l:List (κ×Nat))(seen:List Nat):Nat:=(seen.map λ i=>match l[i]? with|some p=>if q p.1 then p.2 else 0|none=>0).sum
def Mt{q:κ->Bool}{l:List (κ×Nat)}{seen:List Nat}(w:seen.Nodup)(f:∀i∈seen,i<l.length)(e:∀i,i<l.length->i∈seen):Xu q l seen=XK q l:=by
 have z:seen.Perm (range l.length):=(perm_ext_iff_of_nodup w nodup_range).2 λ i=>by
  rw[mem_range];exact⟨f i,e i⟩
 unfold Xu;rw[(z.map _).sum_nat];unfold XK;congr 1;apply ext_getElem?;intro i;rw[getElem?_map,getElem?_map];by_cases h:i<l.length
 .rw[getElem?_range h,getElem?_eq_getElem h];simp[getElem?_eq_getElem h]
 .rw[getElem?_eq_none S3,getElem?_eq_none O1];rfl
def Ta{q:κ->Bool}{l:List (κ×Nat)}{N:Nat}(h:∀p∈l,p.2<=N):∀seen:List Nat,Xu q l seen<=seen.length*N
 |[]=>by simp[Xu]
 |i::s=>by
  have:=Ta (q:=q) h s;simp only[Xu,map_cons,sum_cons,length_cons,Nat.add_mul,Nat.one_mul]at this ⊢
  have f:(match l[i]? with|some p=>if q p.1 then p.2 else 0|none=>0)<=N:=by
   cases e:l[i]? with
   |none=>simp
   |some p=>
    simp only;split
    .exact h p (mem_of_getElem? e)
    .omega
  omega
end
abbrev WU:={ l:List Bool // l.length=6 }
def six(s:Nat->Bool):WU:=⟨(range 6).map s,S1⟩
def Tx(s:Nat->Bool){j:Nat}(h:j<6):W8 (six s).1 j=s j:=by
 simp only[W8,six,getD_eq_getElem?_getD,getElem?_map,getElem?_range h];rfl
def Hu(k:WU):List Value:=QT (W8 k.1)
def LL(s:Nat->Bool):Hu (six s)=QT s:=Uw λ j h=>Tx s h
def CX{k k':WU}(h:∀j,j<6->W8 k.1 j=W8 k'.1 j):k=k':=by
 apply Subtype.ext;apply ext_getElem
 .rw[k.2,k'.2]
 .intro i h1 h2;have:=h i (by rw[k.2]at h1;exact h1);simp only[W8,getD_eq_getElem?_getD,getElem?_eq_getElem h1,getElem?_eq_getElem h2,Option.getD_some]at this;exact this
def Nd(k k':WU):ZI (Hu k) (Hu k')=decide (k=k'):=by
 rw[Bool.eq_iff_iff,decide_eq_true_eq];unfold Hu;rw[Dl];exact⟨CX,λ h=>by subst h;exact λ _ _=>rfl⟩
variable{T:Type}{P:Program}{S:Sys P T}{f:Fm}{K:Value->Qa T->Prop}{U:Qa T}
def El{m e:Nat}{ep:Bool}{d:TypeDesc}{B:TypeInfo}(E:P.underlying e=some d)(F:WY d=true)(z:P.info? e=some B)(f:B.size=1){xs:Array Value}{Q:PUnit->Qa T->Prop}:∀(n j:Nat)(vs:List Value),vs.length=n->(∀i v,vs[i]?=some v->xs[j+i]?=some v)->Q () U ->
  Qw P (forIn (List.range' j n 1) PUnit.unit λ i _=>do
    let s <- sizeOf e
    let a <- part e xs (i*s)
    Instr.checkKey ep (m+1) e a
    pure (ForInStep.yield PUnit.unit)) Q U
 |0,j,vs,H,_,h=>h
 |n+1,j,v::vs,H,I,h=>by
  rw[range'_succ,Ve];simp only[Qc,Ji z,f,Nat.mul_one];have G:xs[j]?=some v:=by simpa using I 0 v rfl
  rw[Gx E F G]
  have w:∀Q:Unit->Qa T->Prop,Qw P (Instr.checkKey ep (m+1) e v) Q U=Q () U:=λ Q=>by
   rw[Instr.checkKey];simp only[Qc,Zi E];cases d <;> simp[WY]at F <;> rfl
  rw[w];simp only[Qi];have:=El (m:=m) (ep:=ep) E F z f (xs:=xs) (Q:=Q) n (j+1) vs (by simpa using H) (λ i v z=>by have:=I (i+1) v z;rwa [show j+(i+1)=j+1+i by omega]at this) h;simpa only[Qc,Ji z,f,Nat.mul_one]using this
def WM.arr{B e len:Nat}{d:TypeDesc}{F:TypeInfo}{κ:Type}[DecidableEq κ]{enc:κ->List Value}(I:P.underlying B=some (.array len e))(K:P.underlying e=some d)(L:WY d=true)(z:P.info? e=some F)(E:F.size=1)
  (f:∀k,(enc k).length=len) (w:∀k,∀v∈enc k,fits d v=true) (N:∀k k',ZI (enc k) (enc k')=decide (k=k')) (G:∀k,Instr.sameBits 10000 (.agg (enc k).toArray) (.agg (enc k).toArray)=true) :
  WM T P B (λ k=>.agg (enc k).toArray):=by
 refine⟨λ e' k Q U h=>?_,λ k l Q U h=>?_,G⟩
 .have:∀m,Qw P (Instr.checkKey e' (m+1+1) B (.agg (enc k).toArray)) Q U:=λ m=>by
   rw[Instr.checkKey];simp only[Qc,Zi I,Std.Legacy.Range.forIn_eq_forIn_range'];have:=El (m:=m) (ep:=e') K L z E (xs:=(enc k).toArray) (Q:=λ _ U=>Qw P (pure ():Sem Unit) Q U) len 0 (enc k) (f k) (λ i v z=>by simpa using z) h;simpa[Std.Legacy.Range.size,Qc]using this
  exact this 9998
 .unfold Instr.findKey;simp only[Qc,Zi I];cases l with
  |nil=>exact h
  |cons p l=>
   rw[Sx (enc:=λ k=>Value.agg (enc k).toArray) (λ _ _=>rfl)]
   have H:∀k k'{Q:Bool->Qa T->Prop}{U:Qa T},Q (decide (k=k')) U->Qw P (Op.equal B (.agg (enc k).toArray) (.agg (enc k').toArray)) Q U:=by
    intro k k' Q U S;have M:Op.equal B (.agg (enc k).toArray) (.agg (enc k').toArray)=Op.equalIn (9998+1+1) B (.agg (enc k).toArray) (.agg (enc k').toArray):=rfl;rw[M,Op.equalIn];simp only[Qc,Zi I,Ji z,E,Std.Legacy.Range.forIn_eq_forIn_range'];refine O6 K L _ 0 (enc k) (enc k') (by simpa[Std.Legacy.Range.size]using f k) (by simpa[Std.Legacy.Range.size]using f k') (w k) (w k') (λ i v z=>by simpa using z) (λ i v z=>by simpa using z) ?_;rw[N];cases G:decide (k=k') <;> simpa[G,Qi]using S
   exact KW H k (p::l) 0 0 h
end Go.TM

