/- Lemmas. No conditions. -/
import Derived.Test.YtnjljnhoaafkiaaGreatDoorB35
set_option linter.all false
open List
namespace Go.TM
section
variable{κ:Type}[DecidableEq κ]
def QG(l:List (κ×Nat)):List (κ×Value):=l.map λ p=>(p.1,.int .i64 (p.2:Nat))
def WD(k:κ):List (κ×Nat)->List (κ×Nat)
 |[]=>[(k,1)]
 |p::l=>if k=p.1 then(p.1,p.2+1)::l else p::WD k l
def JD(k:κ):List (κ×Nat)->Nat
 |[]=>0
 |p::l=>if k=p.1 then p.2 else JD k l
def IU(k:κ):∀(l:List (κ×Nat))(i:Nat),((QL k (QG l) i).map (·.2)).getD (.int .i64 0)=.int .i64 (JD k l:Nat)
 |[],_=>rfl
 |p::l,i=>by
  simp only[QG,map_cons,QL,JD];by_cases e:k=p.1
  .simp[e]
  .rw[if_neg e,if_neg e];exact IU k l (i+1)
def Yg(k:κ)(l:List (κ×Nat)):(lk k (QG l)).getD (.int .i64 0)=.int .i64 (JD k l:Nat):=IU k l 0
def Ls(k:κ):∀(l:List (κ×Nat)),ZA k (.int .i64 (JD k l+1:Nat)) (QG l)=QG (WD k l)
 |[]=>rfl
 |p::l=>by
  simp only[QG,map_cons,ZA,JD,WD];by_cases e:k=p.1
  .simp[e]
  .rw[if_neg e,if_neg e,if_neg e];have:=Ls k l;simp only[QG]at this;rw[this];rfl
def kK(l:List (κ×Nat)):(QG l).length=l.length:=by simp[QG]
def XD(q:κ->Bool)(l:List (κ×Nat)):Nat:=(l.map λ p=>if q p.1 then p.2 else 0).sum
def II(q:κ->Bool)(k:κ):∀l:List (κ×Nat),XD q (WD k l)=XD q l+if q k then 1 else 0
 |[]=>by simp[WD,XD]
 |p::l=>by
  simp only[WD];by_cases e:k=p.1
  .subst e;rw[if_pos rfl];simp only[XD,map_cons,sum_cons];by_cases h:q p.1 <;> simp[h];omega
  .rw[if_neg e];have:=II q k l;simp only[XD,map_cons,sum_cons]at this ⊢;omega
def XA(b:List κ):List (κ×Nat):=b.foldl (λ l k=>WD k l) []
def Ir(b:List κ)(k:κ):XA (b++[k])=WD k (XA b):=by simp[XA]
def Ip(k:κ):∀l:List (κ×Nat),(WD k l).length<=l.length+1
 |[]=>by simp[WD]
 |p::l=>by
  simp only[WD];split
  .simp
  .have:=Ip k l;simp;omega
def Dg{N:Nat}(k:κ):∀l:List (κ×Nat),(∀p∈l,p.2<=N)->∀p∈WD k l,p.2<=N+1
 |[],_,p,b=>by simp[WD]at b;subst b;simp
 |q::l,h,p,b=>by
  simp only[WD]at b;split at b
  .rcases mem_cons.1 b with rfl|b
   .have:=h q (mem_cons_self ..);simp;exact this
   .have:=h p (mem_cons_of_mem _ b);omega
  .rcases mem_cons.1 b with rfl|b
   .have:=h p (mem_cons_self ..);omega
   .exact Dg k l (λ p b=>h p (mem_cons_of_mem _ b)) p b
def ju:∀(n:Nat)(f:List κ),f.length=n->(XA f).length<=n/\(∀p∈XA f,p.2<=n)/\∀q:κ->Bool,XD q (XA f)=f.countP q:=by
 intro n
 induction n with
 |zero=>
  intro f h;obtain rfl:=length_eq_zero_iff.1 h;exact⟨by simp[XA],by simp[XA],λ q=>by simp[XA,XD]⟩
 |succ n E=>
  intro f h
  obtain⟨w,k,rfl⟩:∃w k,f=w++[k]:=by
   rcases eq_nil_or_concat f with rfl|⟨a,b,rfl⟩
   .simp at h
   .exact⟨a,b,S1⟩
  have z:w.length=n:=by simpa using h
  obtain⟨h1,h2,B⟩:=E w z;rw[Ir];refine⟨Nat.le_trans (Ip k _) O1,Dg k _ h2,λ q=>?_⟩;rw[II,B,countP_append];simp
def L4{N:Nat}(k:κ):∀l:List (κ×Nat),(∀p∈l,p.2<=N)->JD k l<=N
 |[],_=>by simp[JD]
 |p::l,h=>by
  simp only[JD];split
  .exact h p (mem_cons_self ..)
  .exact L4 k l λ p b=>h p (mem_cons_of_mem _ b)
def Xh(q:κ->Bool)(l:List (κ×Nat))(seen:List Nat):Nat:=(seen.map λ i=>match l[i]? with|some p=>if q p.1 then p.2 else 0|none=>0).sum
def vL{q:κ->Bool}{l:List (κ×Nat)}{seen:List Nat}(w:seen.Nodup)(f:∀i∈seen,i<l.length)(b:∀i,i<l.length->i∈seen):Xh q l seen=XD q l:=by
 have z:seen.Perm (range l.length):=(perm_ext_iff_of_nodup w nodup_range).2 λ i=>by
  rw[mem_range];exact⟨f i,b i⟩
 unfold Xh;rw[(z.map _).sum_nat];unfold XD;congr 1;apply ext_getElem?;intro i;rw[getElem?_map,getElem?_map];by_cases h:i<l.length
 .rw[getElem?_range h,getElem?_eq_getElem h];simp[getElem?_eq_getElem h]
 .rw[getElem?_eq_none S3,getElem?_eq_none O1];rfl
def Lg{q:κ->Bool}{l:List (κ×Nat)}{N:Nat}(h:∀p∈l,p.2<=N):∀seen:List Nat,Xh q l seen<=seen.length*N
 |[]=>by simp[Xh]
 |i::s=>by
  have:=Lg (q:=q) h s;simp only[Xh,map_cons,sum_cons,length_cons,Nat.add_mul,Nat.one_mul]at this ⊢
  have h2:(match l[i]? with|some p=>if q p.1 then p.2 else 0|none=>0)<=N:=by
   cases hx:l[i]? with
   |none=>simp
   |some p=>
    simp only;split
    .exact h p (mem_of_getElem? hx)
    .omega
  omega
end
abbrev WP:={ l:List Bool // l.length=6 }
def six(s:Nat->Bool):WP:=⟨(range 6).map s,S1⟩
def LN(s:Nat->Bool){j:Nat}(h:j<6):W0 (six s).1 j=s j:=by
 simp only[W0,six,getD_eq_getElem?_getD,getElem?_map,getElem?_range h];rfl
def XX(k:WP):List Value:=QM (W0 k.1)
def pU(s:Nat->Bool):XX (six s)=QM s:=Fs λ j h=>LN s h
def yu{k k':WP}(h:∀j,j<6->W0 k.1 j=W0 k'.1 j):k=k':=by
 apply Subtype.ext;apply ext_getElem
 .rw[k.2,k'.2]
 .intro i h1 h2;have:=h i (by rw[k.2]at h1;exact h1);simp only[W0,getD_eq_getElem?_getD,getElem?_eq_getElem h1,getElem?_eq_getElem h2,Option.getD_some]at this;exact this
def vW(k k':WP):ZF (XX k) (XX k')=decide (k=k'):=by
 rw[Bool.eq_iff_iff,decide_eq_true_eq];unfold XX;rw[Iu];exact⟨yu,λ h=>by subst h;exact λ _ _=>rfl⟩
variable{T:Type}{P:Program}{S:Sys P T}{f:Fm}{K:Value->Qa T->Prop}{U:Qa T}
def D7{m e:Nat}{ep:Bool}{d:TypeDesc}{z:TypeInfo}(B:P.underlying e=some d)(E:WT d=true)(w:P.info? e=some z)(b:z.size=1){xs:Array Value}{Q:PUnit->Qa T->Prop}:∀(n j:Nat)(vs:List Value),vs.length=n->(∀i v,vs[i]?=some v->xs[j+i]?=some v)->Q () U ->
  Qq P (forIn (List.range' j n 1) PUnit.unit λ i _=>do
    let s <- sizeOf e
    let a <- part e xs (i*s)
    Instr.checkKey ep (m+1) e a
    pure (ForInStep.yield PUnit.unit)) Q U
 |0,j,vs,G,_,h=>h
 |n+1,j,v::vs,G,hx,h=>by
  rw[range'_succ,Vc];simp only[Qd,Jd w,b,Nat.mul_one];have F:xs[j]?=some v:=by simpa using hx 0 v rfl
  rw[Gl B E F]
  have f:∀Q:Unit->Qa T->Prop,Qq P (Instr.checkKey ep (m+1) e v) Q U=Q () U:=λ Q=>by
   rw[Instr.checkKey];simp only[Qd,Zb B];cases d <;> simp[WT]at E <;> rfl
  rw[f];simp only[Qi];have:=D7 (m:=m) (ep:=ep) B E w b (xs:=xs) (Q:=Q) n (j+1) vs (by simpa using G) (λ i v w=>by have:=hx (i+1) v w;rwa [show j+(i+1)=j+1+i by omega]at this) h;simpa only[Qd,Jd w,b,Nat.mul_one]using this
def WG.arr{z e len:Nat}{d:TypeDesc}{E:TypeInfo}{κ:Type}[DecidableEq κ]{enc:κ->List Value}(G:P.underlying z=some (.array len e))(H:P.underlying e=some d)(I:WT d=true)(w:P.info? e=some E)(B:E.size=1)
  (b:∀k,(enc k).length=len) (f:∀k,∀v∈enc k,X5 d v=true) (L:∀k k',ZF (enc k) (enc k')=decide (k=k')) (hb:∀k,Instr.sameBits 10000 (.agg (enc k).toArray) (.agg (enc k).toArray)=true) :
  WG T P z (λ k=>.agg (enc k).toArray):=by
 refine⟨λ e' k Q U h=>?_,λ k l Q U h=>?_,hb⟩
 .have:∀m,Qq P (Instr.checkKey e' (m+1+1) z (.agg (enc k).toArray)) Q U:=λ m=>by
   rw[Instr.checkKey];simp only[Qd,Zb G,Std.Legacy.Range.forIn_eq_forIn_range'];have:=D7 (m:=m) (ep:=e') H I w B (xs:=(enc k).toArray) (Q:=λ _ U=>Qq P (pure ():Sem Unit) Q U) len 0 (enc k) (b k) (λ i v w=>by simpa using w) h;simpa[Std.Legacy.Range.size,Qd]using this
  exact this 9998
 .unfold Instr.findKey;simp only[Qd,Zb G];cases l with
  |nil=>exact h
  |cons p l=>
   rw[Ec (enc:=λ k=>Value.agg (enc k).toArray) (λ _ _=>rfl)]
   have F:∀k k'{Q:Bool->Qa T->Prop}{U:Qa T},Q (decide (k=k')) U->Qq P (Op.equal z (.agg (enc k).toArray) (.agg (enc k').toArray)) Q U:=by
    intro k k' Q U M;have K:Op.equal z (.agg (enc k).toArray) (.agg (enc k').toArray)=Op.equalIn (9998+1+1) z (.agg (enc k).toArray) (.agg (enc k').toArray):=rfl;rw[K,Op.equalIn];simp only[Qd,Zb G,Jd w,B,Std.Legacy.Range.forIn_eq_forIn_range'];refine Sx H I _ 0 (enc k) (enc k') (by simpa[Std.Legacy.Range.size]using b k) (by simpa[Std.Legacy.Range.size]using b k') (f k) (f k') (λ i v w=>by simpa using w) (λ i v w=>by simpa using w) ?_;rw[L];cases hb:decide (k=k') <;> simpa[hb,Qi]using M
   exact Oc F k (p::l) 0 0 h
end Go.TM

