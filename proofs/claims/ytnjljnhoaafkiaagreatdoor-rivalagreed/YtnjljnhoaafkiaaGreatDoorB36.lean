/- Lemmas. No conditions. -/
import Derived.Test.YtnjljnhoaafkiaaGreatDoorB35
set_option linter.all false
open List
namespace Go.TM
variable{seen:List Nat}
section
variable{κ:Type}[DecidableEq κ]
def QG(l:List (κ×Nat)):List (κ×Value):=l.map λ p=>(p.1,.int .i64 (p.2:Nat))
def WF(k:κ):List (κ×Nat)->List (κ×Nat)
 |[]=>[(k,1)]
 |p::l=>if k=p.1 then(p.1,p.2+1)::l else p::WF k l
def JE(k:κ):List (κ×Nat)->Nat
 |[]=>0
 |p::l=>if k=p.1 then p.2 else JE k l
def Lm(k:κ):∀(l:List (κ×Nat))(i:Nat),((QL k (QG l) i).map (·.2)).getD (.int .i64 0)=.int .i64 (JE k l:Nat)
 |[],_=>rfl
 |p::l,i=>by
  simp only[QG,map_cons,QL,JE];by_cases e:k=p.1
  .simp[e]
  .rw[if_neg e,if_neg e];exact Lm k l (i+1)
def Yj(k:κ)(l:List (κ×Nat)):(lk k (QG l)).getD (.int .i64 0)=.int .i64 (JE k l:Nat):=Lm k l 0
def Lr(k:κ):∀(l:List (κ×Nat)),ZA k (.int .i64 (JE k l+1:Nat)) (QG l)=QG (WF k l)
 |[]=>rfl
 |p::l=>by
  simp only[QG,map_cons,ZA,JE,WF];by_cases e:k=p.1
  .simp[e]
  .rw[if_neg e,if_neg e,if_neg e];have:=Lr k l;simp only[QG]at this;rw[this];rfl
def vz(l:List (κ×Nat)):(QG l).length=l.length:=by simp[QG]
def XF(q:κ->Bool)(l:List (κ×Nat)):Nat:=(l.map λ p=>if q p.1 then p.2 else 0).sum
def IE(q:κ->Bool)(k:κ):∀l:List (κ×Nat),XF q (WF k l)=XF q l+if q k then 1 else 0
 |[]=>by simp[WF,XF]
 |p::l=>by
  simp only[WF];by_cases e:k=p.1
  .subst e;rw[if_pos rfl];simp only[XF,map_cons,sum_cons];by_cases h:q p.1 <;> simp[h];omega
  .rw[if_neg e];have:=IE q k l;simp only[XF,map_cons,sum_cons]at this ⊢;omega
def XD(b:List κ):List (κ×Nat):=b.foldl (λ l k=>WF k l) []
def In(b:List κ)(k:κ):XD (b++[k])=WF k (XD b):=by simp[XD]
def FN(k:κ):∀l:List (κ×Nat),(WF k l).length<=l.length+1
 |[]=>by simp[WF]
 |p::l=>by
  simp only[WF];split
  .simp
  .have:=FN k l;simp;omega
def De{N:Nat}(k:κ):∀l:List (κ×Nat),(∀p∈l,p.2<=N)->∀p∈WF k l,p.2<=N+1
 |[],_,p,hp=>by simp[WF]at hp;subst hp;simp
 |q::l,h,p,hp=>by
  simp only[WF]at hp;split at hp
  .rcases mem_cons.1 hp with rfl|hp
   .have:=h q (mem_cons_self ..);simp;exact this
   .have:=h p (mem_cons_of_mem _ hp);omega
  .rcases mem_cons.1 hp with rfl|hp
   .have:=h p (mem_cons_self ..);omega
   .exact De k l (λ p hp=>h p (mem_cons_of_mem _ hp)) p hp
def BL:∀(n:Nat)(f:List κ),f.length=n->(XD f).length<=n/\(∀p∈XD f,p.2<=n)/\∀q:κ->Bool,XF q (XD f)=f.countP q:=by
 intro n
 induction n with
 |zero=>
  intro f h;obtain rfl:=length_eq_zero_iff.1 h;exact⟨by simp[XD],by simp[XD],λ q=>by simp[XD,XF]⟩
 |succ n F=>
  intro f h
  obtain⟨w,k,rfl⟩:∃w k,f=w++[k]:=by
   rcases eq_nil_or_concat f with rfl|⟨a,b,rfl⟩
   .simp at h
   .exact⟨a,b,S1⟩
  have B:w.length=n:=by simpa using h
  obtain⟨h1,h2,E⟩:=F w B;rw[In];refine⟨Nat.le_trans (FN k _) O1,De k _ h2,λ q=>?_⟩;rw[IE,E,countP_append];simp
def L0{N:Nat}(k:κ):∀l:List (κ×Nat),(∀p∈l,p.2<=N)->JE k l<=N
 |[],_=>by simp[JE]
 |p::l,h=>by
  simp only[JE];split
  .exact h p (mem_cons_self ..)
  .exact L0 k l λ p hp=>h p (mem_cons_of_mem _ hp)
def Xi(q:κ->Bool)(l:List (κ×Nat))(seen:List Nat):Nat:=(seen.map λ i=>match l[i]? with|some p=>if q p.1 then p.2 else 0|none=>0).sum
def gB{q:κ->Bool}{l:List (κ×Nat)}(w:seen.Nodup)(f:∀i∈seen,i<l.length)(b:∀i,i<l.length->i∈seen):Xi q l seen=XF q l:=by
 have hp:seen.Perm (range l.length):=(perm_ext_iff_of_nodup w nodup_range).2 λ i=>by
  rw[mem_range];exact⟨f i,b i⟩
 unfold Xi;rw[(hp.map _).sum_nat];unfold XF;congr 1;apply ext_getElem?;intro i;rw[getElem?_map,getElem?_map];by_cases h:i<l.length
 .rw[getElem?_range h,getElem?_eq_getElem h];simp[getElem?_eq_getElem h]
 .rw[getElem?_eq_none S3,getElem?_eq_none O1];rfl
def Lp{q:κ->Bool}{l:List (κ×Nat)}{N:Nat}(h:∀p∈l,p.2<=N):∀seen:List Nat,Xi q l seen<=seen.length*N
 |[]=>by simp[Xi]
 |i::s=>by
  have:=Lp (q:=q) h s;simp only[Xi,map_cons,sum_cons,length_cons,Nat.add_mul,Nat.one_mul]at this ⊢
  have h2:(match l[i]? with|some p=>if q p.1 then p.2 else 0|none=>0)<=N:=by
   cases hx:l[i]? with
   |none=>simp
   |some p=>
    simp only;split
    .exact h p (mem_of_getElem? hx)
    .omega
  omega
end
variable{j w e len:Nat}{T:Type}{P:Program}{f:Fm}{U:Qa T}{K:Value->Qa T->Prop}{d:TypeDesc}{E:TypeInfo}
abbrev WQ:={ l:List Bool // l.length=6 }
def six(s:Nat->Bool):WQ:=⟨(range 6).map s,S1⟩
def LI(s:Nat->Bool)(h:j<6):W0 (six s).1 j=s j:=by
 simp only[W0,six,getD_eq_getElem?_getD,getElem?_map,getElem?_range h];rfl
def H0(k:WQ):List Value:=QM (W0 k.1)
def gO(s:Nat->Bool):H0 (six s)=QM s:=Fs λ j h=>LI s h
def vv{k k':WQ}(h:∀j,j<6->W0 k.1 j=W0 k'.1 j):k=k':=by
 apply Subtype.ext;apply ext_getElem
 .rw[k.2,k'.2]
 .intro i h1 h2;have:=h i (by rw[k.2]at h1;exact h1);simp only[W0,getD_eq_getElem?_getD,getElem?_eq_getElem h1,getElem?_eq_getElem h2,Option.getD_some]at this;exact this
def pQ(k k':WQ):ZF (H0 k) (H0 k')=decide (k=k'):=by
 rw[Bool.eq_iff_iff,decide_eq_true_eq];unfold H0;rw[Iq];exact⟨vv,λ h=>by subst h;exact λ _ _=>rfl⟩
def Dh{m e:Nat}{ep:Bool}{d:TypeDesc}{w:TypeInfo}(B:P.underlying e=some d)(E:WU d=true)(hi:P.info? e=some w)(b:w.size=1){xs:Array Value}{Q:PUnit->Qa T->Prop}:∀(n j:Nat)(vs:List Value),vs.length=n->(∀i v,vs[i]?=some v->xs[j+i]?=some v)->Q () U ->
  Qq P (forIn (List.range' j n 1) PUnit.unit λ i _=>do
    let s <- sizeOf e
    let a <- part e xs (i*s)
    Instr.checkKey ep (m+1) e a
    pure (ForInStep.yield PUnit.unit)) Q U
 |0,j,vs,G,_,h=>h
 |n+1,j,v::vs,G,hx,h=>by
  rw[range'_succ,Vf];simp only[Qd,Jd hi,b,Nat.mul_one];have F:xs[j]?=some v:=by simpa using hx 0 v rfl
  rw[Gq B E F]
  have f:∀Q:Unit->Qa T->Prop,Qq P (Instr.checkKey ep (m+1) e v) Q U=Q () U:=λ Q=>by
   rw[Instr.checkKey];simp only[Qd,Ze B];cases d <;> simp[WU]at E <;> rfl
  rw[f];simp only[Qi];have:=Dh (m:=m) (ep:=ep) B E hi b (xs:=xs) (Q:=Q) n (j+1) vs (by simpa using G) (λ i v hi=>by have:=hx (i+1) v hi;rwa [show j+(i+1)=j+1+i by omega]at this) h;simpa only[Qd,Jd hi,b,Nat.mul_one]using this
def WI.arr{κ:Type}[DecidableEq κ]{enc:κ->List Value}(G:P.underlying w=some (.array len e))(H:P.underlying e=some d)(I:WU d=true)(hi:P.info? e=some E)(B:E.size=1)
  (b:∀k,(enc k).length=len) (f:∀k,∀v∈enc k,X6 d v=true) (L:∀k k',ZF (enc k) (enc k')=decide (k=k')) (hb:∀k,Instr.sameBits 10000 (.agg (enc k).toArray) (.agg (enc k).toArray)=true) :
  WI T P w (λ k=>.agg (enc k).toArray):=by
 refine⟨λ e' k Q U h=>?_,λ k l Q U h=>?_,hb⟩
 .have:∀m,Qq P (Instr.checkKey e' (m+1+1) w (.agg (enc k).toArray)) Q U:=λ m=>by
   rw[Instr.checkKey];simp only[Qd,Ze G,Std.Legacy.Range.forIn_eq_forIn_range'];have:=Dh (m:=m) (ep:=e') H I hi B (xs:=(enc k).toArray) (Q:=λ _ U=>Qq P (pure ():Sem Unit) Q U) len 0 (enc k) (b k) (λ i v hi=>by simpa using hi) h;simpa[Std.Legacy.Range.size,Qd]using this
  exact this 9998
 .unfold Instr.findKey;simp only[Qd,Ze G];cases l with
  |nil=>exact h
  |cons p l=>
   rw[Ed (enc:=λ k=>Value.agg (enc k).toArray) (λ _ _=>rfl)]
   have F:∀k k'{Q:Bool->Qa T->Prop}{U:Qa T},Q (decide (k=k')) U->Qq P (Op.equal w (.agg (enc k).toArray) (.agg (enc k').toArray)) Q U:=by
    intro k k' Q U M;have K:Op.equal w (.agg (enc k).toArray) (.agg (enc k').toArray)=Op.equalIn (9998+1+1) w (.agg (enc k).toArray) (.agg (enc k').toArray):=rfl;rw[K,Op.equalIn];simp only[Qd,Ze G,Jd hi,B,Std.Legacy.Range.forIn_eq_forIn_range'];refine SS H I _ 0 (enc k) (enc k') (by simpa[Std.Legacy.Range.size]using b k) (by simpa[Std.Legacy.Range.size]using b k') (f k) (f k') (λ i v hi=>by simpa using hi) (λ i v hi=>by simpa using hi) ?_;rw[L];cases hb:decide (k=k') <;> simpa[hb,Qi]using M
   exact Oh F k (p::l) 0 0 h
