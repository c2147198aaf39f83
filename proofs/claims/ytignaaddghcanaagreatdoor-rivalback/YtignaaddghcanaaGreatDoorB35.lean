/- Lemmas. No conditions. -/
import Derived.Test.YtignaaddghcanaaGreatDoorB34
set_option linter.all false
open List
namespace Go.TM
variable{seen:List Nat}
section
variable{κ:Type}[DecidableEq κ]
def QF(l:List (κ×Nat)):List (κ×Value):=l.map λ p=>(p.1,.int .i64 (p.2:Nat))
def WC(k:κ):List (κ×Nat)->List (κ×Nat)
 |[]=>[(k,1)]
 |p::l=>if k=p.1 then(p.1,p.2+1)::l else p::WC k l
def JA(k:κ):List (κ×Nat)->Nat
 |[]=>0
 |p::l=>if k=p.1 then p.2 else JA k l
def L9(k:κ):∀(l:List (κ×Nat))(i:Nat),((QK k (QF l) i).map (·.2)).getD (.int .i64 0)=.int .i64 (JA k l:Nat)
 |[],_=>rfl
 |p::l,i=>by
  simp only[QF,map_cons,QK,JA];by_cases e:k=p.1
  .simp[e]
  .rw[if_neg e,if_neg e];exact L9 k l (i+1)
def Y6(k:κ)(l:List (κ×Nat)):(lk k (QF l)).getD (.int .i64 0)=.int .i64 (JA k l:Nat):=L9 k l 0
def Ld(k:κ):∀(l:List (κ×Nat)),Q_ k (.int .i64 (JA k l+1:Nat)) (QF l)=QF (WC k l)
 |[]=>rfl
 |p::l=>by
  simp only[QF,map_cons,Q_,JA,WC];by_cases e:k=p.1
  .simp[e]
  .rw[if_neg e,if_neg e,if_neg e];have:=Ld k l;simp only[QF]at this;rw[this];rfl
def kz(l:List (κ×Nat)):(QF l).length=l.length:=by simp[QF]
def XB(q:κ->Bool)(l:List (κ×Nat)):Nat:=(l.map λ p=>if q p.1 then p.2 else 0).sum
def Ip(q:κ->Bool)(k:κ):∀l:List (κ×Nat),XB q (WC k l)=XB q l+if q k then 1 else 0
 |[]=>by simp[WC,XB]
 |p::l=>by
  simp only[WC];by_cases e:k=p.1
  .subst e;rw[if_pos rfl];simp only[XB,map_cons,sum_cons];by_cases h:q p.1 <;> simp[h];omega
  .rw[if_neg e];have:=Ip q k l;simp only[XB,map_cons,sum_cons]at this ⊢;omega
def Xw(b:List κ):List (κ×Nat):=b.foldl (λ l k=>WC k l) []
def FC(b:List κ)(k:κ):Xw (b++[k])=WC k (Xw b):=by simp[Xw]
def Ie(k:κ):∀l:List (κ×Nat),(WC k l).length<=l.length+1
 |[]=>by simp[WC]
 |p::l=>by
  simp only[WC];split
  .simp
  .have:=Ie k l;simp;omega
def US{N:Nat}(k:κ):∀l:List (κ×Nat),(∀p∈l,p.2<=N)->∀p∈WC k l,p.2<=N+1
 |[],_,p,b=>by simp[WC]at b;subst b;simp
 |q::l,h,p,b=>by
  simp only[WC]at b;split at b
  .rcases mem_cons.1 b with rfl|b
   .have:=h q (mem_cons_self ..);simp;exact this
   .have:=h p (mem_cons_of_mem _ b);omega
  .rcases mem_cons.1 b with rfl|b
   .have:=h p (mem_cons_self ..);omega
   .exact US k l (λ p b=>h p (mem_cons_of_mem _ b)) p b
def Bn:∀(n:Nat)(f:List κ),f.length=n->(Xw f).length<=n/\(∀p∈Xw f,p.2<=n)/\∀q:κ->Bool,XB q (Xw f)=f.countP q:=by
 intro n
 induction n with
 |zero=>
  intro f h;obtain rfl:=length_eq_zero_iff.1 h;exact⟨by simp[Xw],by simp[Xw],λ q=>by simp[Xw,XB]⟩
 |succ n F=>
  intro f h
  obtain⟨w,k,rfl⟩:∃w k,f=w++[k]:=by
   rcases eq_nil_or_concat f with rfl|⟨a,b,rfl⟩
   .simp at h
   .exact⟨a,b,S1⟩
  have z:w.length=n:=by simpa using h
  obtain⟨G,B,E⟩:=F w z;rw[FC];refine⟨Nat.le_trans (Ie k _) O1,US k _ B,λ q=>?_⟩;rw[Ip,E,countP_append];simp
def IR{N:Nat}(k:κ):∀l:List (κ×Nat),(∀p∈l,p.2<=N)->JA k l<=N
 |[],_=>by simp[JA]
 |p::l,h=>by
  simp only[JA];split
  .exact h p (mem_cons_self ..)
  .exact IR k l λ p b=>h p (mem_cons_of_mem _ b)
def Xe(q:κ->Bool)(l:List (κ×Nat))(seen:List Nat):Nat:=(seen.map λ i=>match l[i]? with|some p=>if q p.1 then p.2 else 0|none=>0).sum
def pA{q:κ->Bool}{l:List (κ×Nat)}(w:seen.Nodup)(f:∀i∈seen,i<l.length)(b:∀i,i<l.length->i∈seen):Xe q l seen=XB q l:=by
 have z:seen.Perm (range l.length):=(perm_ext_iff_of_nodup w nodup_range).2 λ i=>by
  rw[mem_range];exact⟨f i,b i⟩
 unfold Xe;rw[(z.map _).sum_nat];unfold XB;congr 1;apply ext_getElem?;intro i;rw[getElem?_map,getElem?_map];by_cases h:i<l.length
 .rw[getElem?_range h,getElem?_eq_getElem h];simp[getElem?_eq_getElem h]
 .rw[getElem?_eq_none S3,getElem?_eq_none O1];rfl
def Lc{q:κ->Bool}{l:List (κ×Nat)}{N:Nat}(h:∀p∈l,p.2<=N):∀seen:List Nat,Xe q l seen<=seen.length*N
 |[]=>by simp[Xe]
 |i::s=>by
  have:=Lc (q:=q) h s;simp only[Xe,map_cons,sum_cons,length_cons,Nat.add_mul,Nat.one_mul]at this ⊢
  have f:(match l[i]? with|some p=>if q p.1 then p.2 else 0|none=>0)<=N:=by
   cases b:l[i]? with
   |none=>simp
   |some p=>
    simp only;split
    .exact h p (mem_of_getElem? b)
    .omega
  omega
end
variable{j z e len:Nat}{T:Type}{P:Program}{f:Fm}{U:Qa T}{S:Sys P T}{d:TypeDesc}{E:TypeInfo}
abbrev WN:={ l:List Bool // l.length=6 }
def six(s:Nat->Bool):WN:=⟨(range 6).map s,S1⟩
def Lv(s:Nat->Bool)(h:j<6):Wx (six s).1 j=s j:=by
 simp only[Wx,six,getD_eq_getElem?_getD,getElem?_map,getElem?_range h];rfl
def XX(k:WN):List Value:=QL (Wx k.1)
def pN(s:Nat->Bool):XX (six s)=QL s:=F8 λ j h=>Lv s h
def kr{k k':WN}(h:∀j,j<6->Wx k.1 j=Wx k'.1 j):k=k':=by
 apply Subtype.ext;apply ext_getElem
 .rw[k.2,k'.2]
 .intro i h1 h2;have:=h i (by rw[k.2]at h1;exact h1);simp only[Wx,getD_eq_getElem?_getD,getElem?_eq_getElem h1,getElem?_eq_getElem h2,Option.getD_some]at this;exact this
def vQ(k k':WN):ZE (XX k) (XX k')=decide (k=k'):=by
 rw[Bool.eq_iff_iff,decide_eq_true_eq];unfold XX;rw[FF];exact⟨kr,λ h=>by subst h;exact λ _ _=>rfl⟩
def UV{m e:Nat}{ep:Bool}{d:TypeDesc}{z:TypeInfo}(B:P.underlying e=some d)(E:WR d=true)(w:P.info? e=some z)(b:z.size=1){xs:Array Value}{Q:PUnit->Qa T->Prop}:∀(n j:Nat)(vs:List Value),vs.length=n->(∀i v,vs[i]?=some v->xs[j+i]?=some v)->Q () U ->
  Qq P (forIn (List.range' j n 1) PUnit.unit λ i _=>do
    let s <- sizeOf e
    let a <- part e xs (i*s)
    Instr.checkKey ep (m+1) e a
    pure (ForInStep.yield PUnit.unit)) Q U
 |0,j,vs,G,_,h=>h
 |n+1,j,v::vs,G,H,h=>by
  rw[range'_succ,PZ];simp only[Qd,Je w,b,Nat.mul_one];have F:xs[j]?=some v:=by simpa using H 0 v rfl
  rw[Gc B E F]
  have f:∀Q:Unit->Qa T->Prop,Qq P (Instr.checkKey ep (m+1) e v) Q U=Q () U:=λ Q=>by
   rw[Instr.checkKey];simp only[Qd,Ze B];cases d <;> simp[WR]at E <;> rfl
  rw[f];simp only[Qk];have:=UV (m:=m) (ep:=ep) B E w b (xs:=xs) (Q:=Q) n (j+1) vs (by simpa using G) (λ i v w=>by have:=H (i+1) v w;rwa [show j+(i+1)=j+1+i by omega]at this) h;simpa only[Qd,Je w,b,Nat.mul_one]using this
def WG.arr{κ:Type}[DecidableEq κ]{enc:κ->List Value}(H:P.underlying z=some (.array len e))(I:P.underlying e=some d)(K:WR d=true)(w:P.info? e=some E)(B:E.size=1)
  (b:∀k,(enc k).length=len) (f:∀k,∀v∈enc k,X2 d v=true) (N:∀k k',ZE (enc k) (enc k')=decide (k=k')) (F:∀k,Instr.sameBits 10000 (.agg (enc k).toArray) (.agg (enc k).toArray)=true) :
  WG T P z (λ k=>.agg (enc k).toArray):=by
 refine⟨λ e' k Q U h=>?_,λ k l Q U h=>?_,F⟩
 .have:∀m,Qq P (Instr.checkKey e' (m+1+1) z (.agg (enc k).toArray)) Q U:=λ m=>by
   rw[Instr.checkKey];simp only[Qd,Ze H,Std.Legacy.Range.forIn_eq_forIn_range'];have:=UV (m:=m) (ep:=e') I K w B (xs:=(enc k).toArray) (Q:=λ _ U=>Qq P (pure ():Sem Unit) Q U) len 0 (enc k) (b k) (λ i v w=>by simpa using w) h;simpa[Std.Legacy.Range.size,Qd]using this
  exact this 9998
 .unfold Instr.findKey;simp only[Qd,Ze H];cases l with
  |nil=>exact h
  |cons p l=>
   rw[DU (enc:=λ k=>Value.agg (enc k).toArray) (λ _ _=>rfl)]
   have G:∀k k'{Q:Bool->Qa T->Prop}{U:Qa T},Q (decide (k=k')) U->Qq P (Op.equal z (.agg (enc k).toArray) (.agg (enc k').toArray)) Q U:=by
    intro k k' Q U S;have L:Op.equal z (.agg (enc k).toArray) (.agg (enc k').toArray)=Op.equalIn (9998+1+1) z (.agg (enc k).toArray) (.agg (enc k').toArray):=rfl;rw[L,Op.equalIn];simp only[Qd,Ze H,Je w,B,Std.Legacy.Range.forIn_eq_forIn_range'];refine Sy I K _ 0 (enc k) (enc k') (by simpa[Std.Legacy.Range.size]using b k) (by simpa[Std.Legacy.Range.size]using b k') (f k) (f k') (λ i v w=>by simpa using w) (λ i v w=>by simpa using w) ?_;rw[N];cases F:decide (k=k') <;> simpa[F,Qk]using S
   exact YP G k (p::l) 0 0 h
