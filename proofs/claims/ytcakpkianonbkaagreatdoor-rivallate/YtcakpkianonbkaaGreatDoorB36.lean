/- Lemmas. No conditions. -/
import Derived.Test.YtcakpkianonbkaaGreatDoorB35
set_option linter.all false
set_option linter.unusedSimpArgs false
open List
namespace Go.TM
variable{T:Type}{P:Program}{S:Sys P T}{U:Qa T}{f:Fm}{K:Value->Qa T->Prop}
def Q6i{t e n ty:Nat}{x y:Operand}{sa ya:Option Addr}{sl yl yc:Nat}{cs new:List Value}(k:SlT P t e n)
  (hx:Zl f x=.slice sa sl sl) (hy:Zl f y=.slice ya yl yc) (hss:Src U sa cs) (hcl:cs.length=sl*n) (hsrc:Src U ya new) (hl:new.length=yl*n) (hlen:cs.length+new.length<=1048576)
  (h0:new=[]->K (.slice sa sl sl) U) (h:new≠[]->∀(b:Nat)(c:Array Value)(cap:Nat),U.free b->sl+yl<=cap->c.size=cap*n->(∀(i:Nat)(x:Value),(cs++new)[i]?=some x->c[i]?=some x)->K (.slice (some ⟨b,0,none⟩) (sl+yl) cap) (U.put b (.cells c e))) :
  OX S (.raw { dst:=none,op:=.call { callee:=.builtin .append,args:=#[x,y],argTypes:=#[t,t] },type:=ty,pos := "", after:=#[],guard:=none }) f K U:=by
 obtain⟨inf,z,hi,hsz,hz,hzs,hb0,hb64⟩:=k.i;have hu:=k.u;have hn:=k.n;intro a' hev;have hm:(#[x,y]:Array Operand).map a'.eval=#[.slice sa sl sl,.slice ya yl yc]:=by simp[hev,hx,hy]
 simp only[execOp,resolve,hm,Qf,Qi,invoke,builtin];show Qr P (Builtin.append_ #[t,t] ty #[.slice sa sl sl,.slice ya yl yc]) _ U;unfold Builtin.append_;simp only[getElem?_toArray,getElem?_cons_zero,getElem?_cons_succ,Qf,Zg hu,Jh hi,hsz,Qi,Bool.false_eq_true,if_false,Builtin.lenOf,Wi hi,false_or,Bool.not_false,if_true];have hsl:sl<=cs.length:=by rw[hcl];exact Nat.le_mul_of_pos_right _ hn
 have hyl:yl<=new.length:=by rw[hl];exact Nat.le_mul_of_pos_right _ hn
 split
 .rename_i hle;rw[Qf];refine Qbl hsrc hl ?_;obtain rfl:yl=0:=by omega
  have hnew:new=[]:=eq_nil_of_length_eq_zero (by rw[hl];omega);subst hnew;cases sa with
  |none=>exact⟨U,.refl _,h0 rfl⟩
  |some ad=>
   simp only[Qf];refine Qat _ _ _ ?_;exact⟨U,.refl _,h0 rfl⟩
 .rename_i hgt
  have hne:new≠[]:=by
   rintro rfl;have h1:0<yl*n:=Nat.mul_pos (by omega) hn;rw[<- hl]at h1;exact absurd h1 (by simp)
  have hb1:¬(((sl+yl:Nat):Int) > IntKind.i64.max/\inf.bytes=0):=λ h=>hb0 h.2
  have hb2:¬(Builtin.nextslicecap (sl+yl) sl*inf.bytes > 2^48):=by
   have:=nextslicecap_le (need:=sl+yl) (old:=sl) (by omega);have h2:Builtin.nextslicecap (sl+yl) sl*inf.bytes<=(2*(sl+yl)+192)*1024:=Nat.mul_le_mul this hb64;have e48:(2:Nat)^48=281474976710656:=by decide
   rw[e48];omega
  simp only[Wi hi,Qf];rw[if_neg hb1];simp only[Wi hi,Qf];rw[if_neg hb2];simp only[choose,Qf];show ∀tt,Qr P _ _ U;intro tt;show Qr P (typeInfo e) _ U;rw[Wi hi];refine Qmq ?_;refine Qbl hss hcl ?_;refine Qbl hsrc hl ?_;simp only[Qb7 hi hz];refine Jk λ b' hb'=>?_;have hcut:sl+yl<=Question.cut (.appendCap (sl+yl) sl e) tt:=by simp only[Question.cut];omega
  refine⟨_,.refl _,h hne b' _ _ hb' hcut ?_ λ i x hi=>?_⟩
  .simp only[Array.size_append,size_toArray,hcl,hl,Builtin.zeroCells,Array.size_map,Array.size_range,hzs];rw[<- Nat.add_mul,<- Nat.add_mul];congr 1;omega
  .have:(cs.toArray++new.toArray)=(cs++new).toArray:=by simp
   rw[this,Array.getElem?_append_left (by simpa using(List.getElem?_eq_some_iff.1 hi).1)];simpa using hi
def Zd.ints{b:Nat}{c:Array Value}{l:List Int}(h:Zd U b c)(hc:∀(i:Nat)(x:Int),l[i]?=some x->c[i]?=some (.int .i64 x)):Z3 U (some ⟨b,0,none⟩) l.length l:=
 ⟨rfl,λ i x hx=>⟨_,rfl,rfl,by rw[Nat.mul_one,Qo];exact h.sees (by rw[Nat.zero_add];exact hc i x hx)⟩⟩
def Qrn(U:Qa T)(cs:List Value)(ls:List (List Int)):Prop:=cs.length=ls.length/\∀(i:Nat)(l:List Int),ls[i]?=some l->∃a c,cs[i]?=some (Value.slice a l.length c)/\Z3 U.frz a l.length l/\l.length<2^60
def Qrn.lg{U':Qa T}{cs:List Value}{ls:List (List Int)}(h:Qrn U cs ls)(k:U.frz.lg U'.frz):Qrn U' cs ls:=⟨h.1,λ i l hl=>let ⟨a,c,e,h,g⟩:=h.2 i l hl;⟨a,c,e,h.lg k,g⟩⟩
def Qrn.snoc{cs:List Value}{ls:List (List Int)}{a:Option Addr}{c:Nat}{l:List Int}(h:Qrn U cs ls)(hl:Z3 U.frz a l.length l)(hn:l.length<2^60):Qrn U (cs++[Value.slice a l.length c]) (ls++[l]):=by
 refine⟨by simp[h.1],λ i x hx=>?_⟩;by_cases hi:i<ls.length
 .rw[getElem?_append_left hi]at hx;obtain⟨a',c',e,h',g⟩:=h.2 i x hx;exact⟨a',c',by rw[getElem?_append_left (by rw[h.1];exact hi)];exact e,h',g⟩
 .have hlt:=(List.getElem?_eq_some_iff.1 hx).1;simp at hlt;obtain rfl:i=ls.length:=by omega
  simp at hx;subst hx;exact⟨a,c,by rw[<- h.1];simp,hl,hn⟩
def Qrn.lists{a:Option Addr}{cs:List Value}{ls:List (List Int)}(h:Qrn U cs ls)(hs:Src U.frz a cs)(hsp:∀ad,a=some ad->ad.spot=none):Wj U.frz a ls.length ls:=by
 refine⟨rfl,λ i l hl=>?_⟩;obtain⟨a',c',e,h',g⟩:=h.2 i l hl;rcases hs with⟨_,hn⟩|⟨ad,rfl,hr⟩
 .subst hn;cases e
 .refine⟨ad,[.slice a' l.length c'],rfl,hsp _ rfl,⟨a',l.length,c',rfl,h',g⟩,rfl,λ k v hv=>?_⟩;cases k with
  |zero=>
   simp at hv;subst hv;have:=hr i _ e;have hsp':=hsp ad rfl;obtain⟨b,o,s⟩:=ad;cases hsp';rw[Qo]at this ⊢;rw[Qo,Nat.mul_one,Nat.add_zero];exact this
  |succ k=>simp at hv
end Go.TM
