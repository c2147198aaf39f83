/- Lemmas. No conditions. -/
import Derived.Test.YtajkaognaiglhaaGreatDoorB20
set_option linter.all false
open List
namespace Go.TM
variable{seen:List Nat}
section
variable{κ:Type}[DecidableEq κ]
def QH(l:List (κ×Nat)):List (κ×Value):=l.map λ p=>(p.1,.int .i64 (p.2:Nat))
def WG(k:κ):List (κ×Nat)->List (κ×Nat)
 |[]=>[(k,1)]
 |p::l=>if k=p.1 then(p.1,p.2+1)::l else p::WG k l
def JJ(k:κ):List (κ×Nat)->Nat
 |[]=>0
 |p::l=>if k=p.1 then p.2 else JJ k l
def T9(k:κ):∀(l:List (κ×Nat))(i:Nat),((QM k (QH l) i).map (·.2)).getD (.int .i64 0)=.int .i64 (JJ k l:Nat)
 |[],_=>rfl
 |p::l,i=>by
  simp only[QH,map_cons,QM,JJ];by_cases e:k=p.1
  .simp[e]
  .rw[if_neg e,if_neg e];exact T9 k l (i+1)
def Kd(k:κ)(l:List (κ×Nat)):(lk k (QH l)).getD (.int .i64 0)=.int .i64 (JJ k l:Nat):=T9 k l 0
def Tg(k:κ):∀(l:List (κ×Nat)),ups k (.int .i64 (JJ k l+1:Nat)) (QH l)=QH (WG k l)
 |[]=>rfl
 |p::l=>by
  simp only[QH,map_cons,ups,JJ,WG];by_cases e:k=p.1
  .simp[e]
  .rw[if_neg e,if_neg e,if_neg e];have:=Tg k l;simp only[QH]at this;rw[this];rfl
def MX(l:List (κ×Nat)):(QH l).length=l.length:=by simp[QH]
def XQ(q:κ->Bool)(l:List (κ×Nat)):Nat:=(l.map λ p=>if q p.1 then p.2 else 0).sum
def De(q:κ->Bool)(k:κ):∀l:List (κ×Nat),XQ q (WG k l)=XQ q l+if q k then 1 else 0
 |[]=>by simp[WG,XQ]
 |p::l=>by
  simp only[WG];by_cases e:k=p.1
  .subst e;rw[if_pos rfl];simp only[XQ,map_cons,sum_cons];by_cases h:q p.1 <;> simp[h];omega
  .rw[if_neg e];have:=De q k l;simp only[XQ,map_cons,sum_cons]at this ⊢;omega
def XN(e:List κ):List (κ×Nat):=e.foldl (λ l k=>WG k l) []
def Uu(e:List κ)(k:κ):XN (e++[k])=WG k (XN e):=by simp[XN]
def Ur(k:κ):∀l:List (κ×Nat),(WG k l).length<=l.length+1
 |[]=>by simp[WG]
 |p::l=>by
  simp only[WG];split
  .simp
  .have:=Ur k l;simp;omega
def DS{N:Nat}(k:κ):∀l:List (κ×Nat),(∀p∈l,p.2<=N)->∀p∈WG k l,p.2<=N+1
 |[],_,p,e=>by simp[WG]at e;subst e;simp
 |q::l,h,p,e=>by
  simp only[WG]at e;split at e
  .rcases mem_cons.1 e with rfl|e
   .have:=h q (mem_cons_self ..);simp;exact this
   .have:=h p (mem_cons_of_mem _ e);omega
  .rcases mem_cons.1 e with rfl|e
   .have:=h p (mem_cons_self ..);omega
   .exact DS k l (λ p e=>h p (mem_cons_of_mem _ e)) p e
def B_:∀(n:Nat)(e:List κ),e.length=n->(XN e).length<=n/\(∀p∈XN e,p.2<=n)/\∀q:κ->Bool,XQ q (XN e)=e.countP q:=by
 intro n
 induction n with
 |zero=>
  intro e h;obtain rfl:=length_eq_zero_iff.1 h;exact⟨by simp[XN],by simp[XN],λ q=>by simp[XN,XQ]⟩
 |succ n E=>
  intro e h
  obtain⟨f,k,rfl⟩:∃f k,e=f++[k]:=by
   rcases eq_nil_or_concat e with rfl|⟨a,b,rfl⟩
   .simp at h
   .exact⟨a,b,S1⟩
  have w:f.length=n:=by simpa using h
  obtain⟨F,z,B⟩:=E f w;rw[Uu];refine⟨Nat.le_trans (Ur k _) O1,DS k _ z,λ q=>?_⟩;rw[De,B,countP_append];simp
def OR{N:Nat}(k:κ):∀l:List (κ×Nat),(∀p∈l,p.2<=N)->JJ k l<=N
 |[],_=>by simp[JJ]
 |p::l,h=>by
  simp only[JJ];split
  .exact h p (mem_cons_self ..)
  .exact OR k l λ p e=>h p (mem_cons_of_mem _ e)
def Xx(q:κ->Bool)(l:List (κ×Nat))(seen:List Nat):Nat:=(seen.map λ i=>match l[i]? with|some p=>if q p.1 then p.2 else 0|none=>0).sum
def Ly{q:κ->Bool}{l:List (κ×Nat)}(w:seen.Nodup)(f:∀i∈seen,i<l.length)(e:∀i,i<l.length->i∈seen):Xx q l seen=XQ q l:=by
 have z:seen.Perm (range l.length):=(perm_ext_iff_of_nodup w nodup_range).2 λ i=>by
  rw[mem_range];exact⟨f i,e i⟩
 unfold Xx;rw[(z.map _).sum_nat];unfold XQ;congr 1;apply ext_getElem?;intro i;rw[getElem?_map,getElem?_map];by_cases h:i<l.length
 .rw[getElem?_range h,getElem?_eq_getElem h];simp[getElem?_eq_getElem h]
 .rw[getElem?_eq_none S3,getElem?_eq_none O1];rfl
def Tc{q:κ->Bool}{l:List (κ×Nat)}{N:Nat}(h:∀p∈l,p.2<=N):∀seen:List Nat,Xx q l seen<=seen.length*N
 |[]=>by simp[Xx]
 |i::s=>by
  have:=Tc (q:=q) h s;simp only[Xx,map_cons,sum_cons,length_cons,Nat.add_mul,Nat.one_mul]at this ⊢
  have f:(match l[i]? with|some p=>if q p.1 then p.2 else 0|none=>0)<=N:=by
   cases e:l[i]? with
   |none=>simp
   |some p=>
    simp only;split
    .exact h p (mem_of_getElem? e)
    .omega
  omega
end
variable{j B e len:Nat}{T:Type}{P:Program}{U:Qa T}{S:Sys P T}{d:TypeDesc}{F:TypeInfo}
abbrev WV:={ l:List Bool // l.length=6 }
def six(s:Nat->Bool):WV:=⟨(range 6).map s,S1⟩
def Tv(s:Nat->Bool)(h:j<6):W8 (six s).1 j=s j:=by
 simp only[W8,six,getD_eq_getElem?_getD,getElem?_map,getElem?_range h];rfl
def Hx(k:WV):List Value:=QT (W8 k.1)
def LM(s:Nat->Bool):Hx (six s)=QT s:=Uf λ j h=>Tv s h
def Np{k k':WV}(h:∀j,j<6->W8 k.1 j=W8 k'.1 j):k=k':=by
 apply Subtype.ext;apply ext_getElem
 .rw[k.2,k'.2]
 .intro i h1 h2;have:=h i (by rw[k.2]at h1;exact h1);simp only[W8,getD_eq_getElem?_getD,getElem?_eq_getElem h1,getElem?_eq_getElem h2,Option.getD_some]at this;exact this
def MO(k k':WV):ZJ (Hx k) (Hx k')=decide (k=k'):=by
 rw[Bool.eq_iff_iff,decide_eq_true_eq];unfold Hx;rw[Uw];exact⟨Np,λ h=>by subst h;exact λ _ _=>rfl⟩
def DV{m e:Nat}{ep:Bool}{d:TypeDesc}{B:TypeInfo}(E:P.underlying e=some d)(F:W_ d=true)(z:P.info? e=some B)(f:B.size=1){xs:Array Value}{Q:PUnit->Qa T->Prop}:∀(n j:Nat)(vs:List Value),vs.length=n->(∀i v,vs[i]?=some v->xs[j+i]?=some v)->Q () U ->
  Qw P (forIn (List.range' j n 1) PUnit.unit λ i _=>do
    let s <- sizeOf e
    let a <- part e xs (i*s)
    Instr.checkKey ep (m+1) e a
    pure (ForInStep.yield PUnit.unit)) Q U
 |0,j,vs,H,_,h=>h
 |n+1,j,v::vs,H,I,h=>by
  rw[range'_succ,Vb];simp only[Qc,Ji z,f,Nat.mul_one];have G:xs[j]?=some v:=by simpa using I 0 v rfl
  rw[Gx E F G]
  have w:∀Q:Unit->Qa T->Prop,Qw P (Instr.checkKey ep (m+1) e v) Q U=Q () U:=λ Q=>by
   rw[Instr.checkKey];simp only[Qc,Zi E];cases d <;> simp[W_]at F <;> rfl
  rw[w];simp only[Qi];have:=DV (m:=m) (ep:=ep) E F z f (xs:=xs) (Q:=Q) n (j+1) vs (by simpa using H) (λ i v z=>by have:=I (i+1) v z;rwa [show j+(i+1)=j+1+i by omega]at this) h;simpa only[Qc,Ji z,f,Nat.mul_one]using this
def WM.arr{κ:Type}[DecidableEq κ]{enc:κ->List Value}(I:P.underlying B=some (.array len e))(K:P.underlying e=some d)(L:W_ d=true)(z:P.info? e=some F)(E:F.size=1)
  (f:∀k,(enc k).length=len) (w:∀k,∀v∈enc k,fits d v=true) (N:∀k k',ZJ (enc k) (enc k')=decide (k=k')) (G:∀k,Instr.sameBits 10000 (.agg (enc k).toArray) (.agg (enc k).toArray)=true) :
  WM T P B (λ k=>.agg (enc k).toArray):=by
 refine⟨λ e' k Q U h=>?_,λ k l Q U h=>?_,G⟩
 .have:∀m,Qw P (Instr.checkKey e' (m+1+1) B (.agg (enc k).toArray)) Q U:=λ m=>by
   rw[Instr.checkKey];simp only[Qc,Zi I,Std.Legacy.Range.forIn_eq_forIn_range'];have:=DV (m:=m) (ep:=e') K L z E (xs:=(enc k).toArray) (Q:=λ _ U=>Qw P (pure ():Sem Unit) Q U) len 0 (enc k) (f k) (λ i v z=>by simpa using z) h;simpa[Std.Legacy.Range.size,Qc]using this
  exact this 9998
 .unfold Instr.findKey;simp only[Qc,Zi I];cases l with
  |nil=>exact h
  |cons p l=>
   rw[Sj (enc:=λ k=>Value.agg (enc k).toArray) (λ _ _=>rfl)]
   have H:∀k k'{Q:Bool->Qa T->Prop}{U:Qa T},Q (decide (k=k')) U->Qw P (Op.equal B (.agg (enc k).toArray) (.agg (enc k').toArray)) Q U:=by
    intro k k' Q U S;have M:Op.equal B (.agg (enc k).toArray) (.agg (enc k').toArray)=Op.equalIn (9998+1+1) B (.agg (enc k).toArray) (.agg (enc k').toArray):=rfl;rw[M,Op.equalIn];simp only[Qc,Zi I,Ji z,E,Std.Legacy.Range.forIn_eq_forIn_range'];refine Y_ K L _ 0 (enc k) (enc k') (by simpa[Std.Legacy.Range.size]using f k) (by simpa[Std.Legacy.Range.size]using f k') (w k) (w k') (λ i v z=>by simpa using z) (λ i v z=>by simpa using z) ?_;rw[N];cases G:decide (k=k') <;> simpa[G,Qi]using S
   exact KS H k (p::l) 0 0 h
