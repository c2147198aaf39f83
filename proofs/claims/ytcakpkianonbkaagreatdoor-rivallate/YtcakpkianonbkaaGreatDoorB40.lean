/- Lemmas. No conditions. -/
import Derived.Test.YtcakpkianonbkaaGreatDoorB38
set_option linter.all false
open List
namespace Go.TM
section
variable{κ:Type}[DecidableEq κ]
def toV(l:List (κ×Nat)):List (κ×Value):=l.map λ p=>(p.1,.int .i64 (p.2:Nat))
def Qde(k:κ):List (κ×Nat)->List (κ×Nat)
 |[]=>[(k,1)]
 |p::l=>if k=p.1 then(p.1,p.2+1)::l else p::Qde k l
def Qg1(k:κ):List (κ×Nat)->Nat
 |[]=>0
 |p::l=>if k=p.1 then p.2 else Qg1 k l
def Zfj(k:κ):∀(l:List (κ×Nat))(i:Nat),((lkI k (toV l) i).map (·.2)).getD (.int .i64 0)=.int .i64 (Qg1 k l:Nat)
 |[],_=>rfl
 |p::l,i=>by
  simp only[toV,map_cons,lkI,Qg1];by_cases e:k=p.1
  .simp[e]
  .rw[if_neg e,if_neg e];exact Zfj k l (i+1)
def Q1a(k:κ)(l:List (κ×Nat)):(lk k (toV l)).getD (.int .i64 0)=.int .i64 (Qg1 k l:Nat):=Zfj k l 0
def Zfz(k:κ):∀(l:List (κ×Nat)),ups k (.int .i64 (Qg1 k l+1:Nat)) (toV l)=toV (Qde k l)
 |[]=>rfl
 |p::l=>by
  simp only[toV,map_cons,ups,Qg1,Qde];by_cases e:k=p.1
  .simp[e]
  .rw[if_neg e,if_neg e,if_neg e];have:=Zfz k l;simp only[toV]at this;rw[this];rfl
def Zra(l:List (κ×Nat)):(toV l).length=l.length:=by simp[toV]
def Qxg(q:κ->Bool)(l:List (κ×Nat)):Nat:=(l.map λ p=>if q p.1 then p.2 else 0).sum
def Qzn(q:κ->Bool)(k:κ):∀l:List (κ×Nat),Qxg q (Qde k l)=Qxg q l+if q k then 1 else 0
 |[]=>by simp[Qde,Qxg]
 |p::l=>by
  simp only[Qde];by_cases e:k=p.1
  .subst e;rw[if_pos rfl];simp only[Qxg,map_cons,sum_cons];by_cases h:q p.1 <;> simp[h];omega
  .rw[if_neg e];have:=Qzn q k l;simp only[Qxg,map_cons,sum_cons]at this ⊢;omega
def Qw9(ks:List κ):List (κ×Nat):=ks.foldl (λ l k=>Qde k l) []
def Qy5(ks:List κ)(k:κ):Qw9 (ks++[k])=Qde k (Qw9 ks):=by simp[Qw9]
def Qy3(k:κ):∀l:List (κ×Nat),(Qde k l).length<=l.length+1
 |[]=>by simp[Qde]
 |p::l=>by
  simp only[Qde];split
  .simp
  .have:=Qy3 k l;simp;omega
def Q5g{N:Nat}(k:κ):∀l:List (κ×Nat),(∀p∈l,p.2<=N)->∀p∈Qde k l,p.2<=N+1
 |[],_,p,hp=>by simp[Qde]at hp;subst hp;simp
 |q::l,h,p,hp=>by
  simp only[Qde]at hp;split at hp
  .rcases mem_cons.1 hp with rfl|hp
   .have:=h q (mem_cons_self ..);simp;exact this
   .have:=h p (mem_cons_of_mem _ hp);omega
  .rcases mem_cons.1 hp with rfl|hp
   .have:=h p (mem_cons_self ..);omega
   .exact Q5g k l (λ p hp=>h p (mem_cons_of_mem _ hp)) p hp
def Zdq:∀(n:Nat)(ks:List κ),ks.length=n->(Qw9 ks).length<=n/\(∀p∈Qw9 ks,p.2<=n)/\∀q:κ->Bool,Qxg q (Qw9 ks)=ks.countP q:=by
 intro n
 induction n with
 |zero=>
  intro ks h;obtain rfl:=length_eq_zero_iff.1 h;exact⟨by simp[Qw9],by simp[Qw9],λ q=>by simp[Qw9,Qxg]⟩
 |succ n ih=>
  intro ks h
  obtain⟨ks',k,rfl⟩:∃ks' k,ks=ks'++[k]:=by
   rcases eq_nil_or_concat ks with rfl|⟨a,b,rfl⟩
   .simp at h
   .exact⟨a,b,by simp⟩
  have h':ks'.length=n:=by simpa using h
  obtain⟨h1,h2,h3⟩:=ih ks' h';rw[Qy5];refine⟨Nat.le_trans (Qy3 k _) (by omega),Q5g k _ h2,λ q=>?_⟩;rw[Qzn,h3,countP_append];simp
def Ze1{N:Nat}(k:κ):∀l:List (κ×Nat),(∀p∈l,p.2<=N)->Qg1 k l<=N
 |[],_=>by simp[Qg1]
 |p::l,h=>by
  simp only[Qg1];split
  .exact h p (mem_cons_self ..)
  .exact Ze1 k l λ p hp=>h p (mem_cons_of_mem _ hp)
def Qvx(q:κ->Bool)(l:List (κ×Nat))(seen:List Nat):Nat:=(seen.map λ i=>match l[i]? with|some p=>if q p.1 then p.2 else 0|none=>0).sum
def Zn5{q:κ->Bool}{l:List (κ×Nat)}{seen:List Nat}(hn:seen.Nodup)(hlt:∀i∈seen,i<l.length)(hall:∀i,i<l.length->i∈seen):Qvx q l seen=Qxg q l:=by
 have hp:seen.Perm (range l.length):=(perm_ext_iff_of_nodup hn nodup_range).2 λ i=>by
  rw[mem_range];exact⟨hlt i,hall i⟩
 unfold Qvx;rw[(hp.map _).sum_nat];unfold Qxg;congr 1;apply ext_getElem?;intro i;rw[getElem?_map,getElem?_map];by_cases h:i<l.length
 .rw[getElem?_range h,getElem?_eq_getElem h];simp[getElem?_eq_getElem h]
 .rw[getElem?_eq_none (by simp;omega),getElem?_eq_none (by omega)];rfl
def Zfm{q:κ->Bool}{l:List (κ×Nat)}{N:Nat}(h:∀p∈l,p.2<=N):∀seen:List Nat,Qvx q l seen<=seen.length*N
 |[]=>by simp[Qvx]
 |i::s=>by
  have:=Zfm (q:=q) h s;simp only[Qvx,map_cons,sum_cons,length_cons,Nat.add_mul,Nat.one_mul]at this ⊢
  have h2:(match l[i]? with|some p=>if q p.1 then p.2 else 0|none=>0)<=N:=by
   cases hx:l[i]? with
   |none=>simp
   |some p=>
    simp only;split
    .exact h p (mem_of_getElem? hx)
    .omega
  omega
end
abbrev Six:={ l:List Bool // l.length=6 }
def six(s:Nat->Bool):Six:=⟨(range 6).map s,by simp⟩
def Zom(s:Nat->Bool){j:Nat}(h:j<6):W2 (six s).1 j=s j:=by
 simp only[W2,six,getD_eq_getElem?_getD,getElem?_map,getElem?_range h];rfl
def Q5o(k:Six):List Value:=Qaj (W2 k.1)
def Znp(s:Nat->Bool):Q5o (six s)=Qaj s:=Qv7 λ j h=>Zom s h
def Zq5{k k':Six}(h:∀j,j<6->W2 k.1 j=W2 k'.1 j):k=k':=by
 apply Subtype.ext;apply ext_getElem
 .rw[k.2,k'.2]
 .intro i h1 h2;have:=h i (by rw[k.2]at h1;exact h1);simp only[W2,getD_eq_getElem?_getD,getElem?_eq_getElem h1,getElem?_eq_getElem h2,Option.getD_some]at this;exact this
def Zp1(k k':Six):Qdi (Q5o k) (Q5o k')=decide (k=k'):=by
 rw[Bool.eq_iff_iff,decide_eq_true_eq];unfold Q5o;rw[Qy9];exact⟨Zq5,λ h=>by subst h;exact λ _ _=>rfl⟩
variable{T:Type}{P:Program}{S:Sys P T}{f:Fm}{K:Value->Qa T->Prop}{U:Qa T}
def Q5k{m e:Nat}{ep:Bool}{d:TypeDesc}{inf:TypeInfo}(hd:P.underlying e=some d)(hs:Qai d=true)(hi:P.info? e=some inf)(hsz:inf.size=1){xs:Array Value}{Q:PUnit->Qa T->Prop}:∀(n j:Nat)(vs:List Value),vs.length=n->(∀i v,vs[i]?=some v->xs[j+i]?=some v)->Q () U ->
  Qr P (forIn (List.range' j n 1) PUnit.unit λ i _=>do
    let s <- sizeOf e
    let a <- part e xs (i*s)
    Instr.checkKey ep (m+1) e a
    pure (ForInStep.yield PUnit.unit)) Q U
 |0,j,vs,hv,_,h=>h
 |n+1,j,v::vs,hv,hx,h=>by
  rw[range'_succ,Qb6];simp only[Qf,Jh hi,hsz,Nat.mul_one];have hx0:xs[j]?=some v:=by simpa using hx 0 v rfl
  rw[Qi8 hd hs hx0]
  have hchk:∀Q:Unit->Qa T->Prop,Qr P (Instr.checkKey ep (m+1) e v) Q U=Q () U:=λ Q=>by
   rw[Instr.checkKey];simp only[Qf,Zg hd];cases d <;> simp[Qai]at hs <;> rfl
  rw[hchk];simp only[Qi];have:=Q5k (m:=m) (ep:=ep) hd hs hi hsz (xs:=xs) (Q:=Q) n (j+1) vs (by simpa using hv) (λ i v hi=>by have:=hx (i+1) v hi;rwa [show j+(i+1)=j+1+i by omega]at this) h;simpa only[Qf,Jh hi,hsz,Nat.mul_one]using this
def Qjx.arr{kt e len:Nat}{d:TypeDesc}{inf:TypeInfo}{κ:Type}[DecidableEq κ]{enc:κ->List Value}(hu:P.underlying kt=some (.array len e))(hd:P.underlying e=some d)(hs:Qai d=true)(hi:P.info? e=some inf)(hsz:inf.size=1)
  (hlen:∀k,(enc k).length=len) (hfit:∀k,∀v∈enc k,Qq2 d v=true) (he:∀k k',Qdi (enc k) (enc k')=decide (k=k')) (hb:∀k,Instr.sameBits 10000 (.agg (enc k).toArray) (.agg (enc k).toArray)=true) :
  Qjx T P kt (λ k=>.agg (enc k).toArray):=by
 refine⟨λ e' k Q U h=>?_,λ k l Q U h=>?_,hb⟩
 .have:∀m,Qr P (Instr.checkKey e' (m+1+1) kt (.agg (enc k).toArray)) Q U:=λ m=>by
   rw[Instr.checkKey];simp only[Qf,Zg hu,Std.Legacy.Range.forIn_eq_forIn_range'];have:=Q5k (m:=m) (ep:=e') hd hs hi hsz (xs:=(enc k).toArray) (Q:=λ _ U=>Qr P (pure ():Sem Unit) Q U) len 0 (enc k) (hlen k) (λ i v hi=>by simpa using hi) h;simpa[Std.Legacy.Range.size,Qf]using this
  exact this 9998
 .unfold Instr.findKey;simp only[Qf,Zg hu];cases l with
  |nil=>exact h
  |cons p l=>
   rw[Qmb (enc:=λ k=>Value.agg (enc k).toArray) (λ _ _=>rfl)]
   have heq:∀k k'{Q:Bool->Qa T->Prop}{U:Qa T},Q (decide (k=k')) U->Qr P (Op.equal kt (.agg (enc k).toArray) (.agg (enc k').toArray)) Q U:=by
    intro k k' Q U hq;have e1:Op.equal kt (.agg (enc k).toArray) (.agg (enc k').toArray)=Op.equalIn (9998+1+1) kt (.agg (enc k).toArray) (.agg (enc k').toArray):=rfl;rw[e1,Op.equalIn];simp only[Qf,Zg hu,Jh hi,hsz,Std.Legacy.Range.forIn_eq_forIn_range'];refine Q01 hd hs _ 0 (enc k) (enc k') (by simpa[Std.Legacy.Range.size]using hlen k) (by simpa[Std.Legacy.Range.size]using hlen k') (hfit k) (hfit k') (λ i v hi=>by simpa using hi) (λ i v hi=>by simpa using hi) ?_;rw[he];cases hb:decide (k=k') <;> simpa[hb,Qi]using hq
   exact Qkb heq k (p::l) 0 0 h
end Go.TM
