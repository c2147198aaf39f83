/- Lemmas. No conditions. -/
import Derived.Test.YtnjljnhoaafkiaaGreatDoorB32
set_option linter.all false
set_option linter.unusedSimpArgs false
open List
namespace Go.TM
variable{T:Type}{P:Program}{S:Sys P T}{U:Qa T}{f:Fm}{K:Value->Qa T->Prop}
def Dx{t e n ty:Nat}{x y:Operand}{sa L:Option Addr}{sl yl yc:Nat}{cs new:List Value}(k:X6 P t e n)
  (hx:Zf f x=.slice sa sl sl) (hy:Zf f y=.slice L yl yc) (Z:Src U sa cs) (E:cs.length=sl*n) (B:Src U L new) (hl:new.length=yl*n) (ac:cs.length+new.length<=1048576)
  (h0:new=[]->K (.slice sa sl sl) U) (h:new≠[]->∀(b:Nat)(c:Array Value)(cap:Nat),U.free b->sl+yl<=cap->c.size=cap*n->(∀(i:Nat)(x:Value),(cs++new)[i]?=some x->c[i]?=some x)->K (.slice (some ⟨b,0,none⟩) (sl+yl) cap) (U.put b (.cells c e))) :
  OX S (.raw { dst:=none,op:=.call { callee:=.builtin .append,args:=#[x,y],argTypes:=#[t,t] },type:=ty,pos := "", after:=#[],guard:=none }) f K U:=by
 obtain⟨F,z,w,aa,hz,ab,Q,G⟩:=k.i;have hu:=k.u;have X:=k.n;intro a' W;have hm:(#[x,y]:Array Operand).map a'.eval=#[.slice sa sl sl,.slice L yl yc]:=by simp[W,hx,hy]
 simp only[execOp,resolve,hm,Qd,Qi,invoke,builtin];show Qq P (Builtin.append_ #[t,t] ty #[.slice sa sl sl,.slice L yl yc]) _ U;unfold Builtin.append_;simp only[getElem?_toArray,getElem?_cons_zero,getElem?_cons_succ,Qd,Zb hu,Jd w,aa,Qi,Bool.false_eq_true,if_false,Builtin.lenOf,We w,false_or,Bool.not_false,if_true];have ae:sl<=cs.length:=by rw[E];exact Nat.le_mul_of_pos_right _ X
 have af:yl<=new.length:=by rw[hl];exact Nat.le_mul_of_pos_right _ X
 split
 .rename_i hle;rw[Qd];refine XP B hl ?_;obtain rfl:yl=0:=O1
  have I:new=[]:=eq_nil_of_length_eq_zero (by rw[hl];omega);subst I;cases sa with
  |none=>exact⟨U,.refl _,h0 rfl⟩
  |some ad=>
   simp only[Qd];refine Ww _ _ _ ?_;exact⟨U,.refl _,h0 rfl⟩
 .rename_i hgt
  have Y:new≠[]:=by
   rintro rfl;have h1:0<yl*n:=Nat.mul_pos O1 X;rw[<- hl]at h1;exact absurd h1 S1
  have T:¬(((sl+yl:Nat):Int) > IntKind.i64.max/\F.bytes=0):=λ h=>Q h.2
  have V:¬(Builtin.nextslicecap (sl+yl) sl*F.bytes > 2^48):=by
   have:=QF (need:=sl+yl) (old:=sl) O1;have h2:Builtin.nextslicecap (sl+yl) sl*F.bytes<=(2*(sl+yl)+192)*1024:=Nat.mul_le_mul this G;have M:(2:Nat)^48=281474976710656:=D1
   rw[M];omega
  simp only[We w,Qd];rw[if_neg T];simp only[We w,Qd];rw[if_neg V];simp only[choose,Qd];show ∀tt,Qq P _ _ U;intro tt;show Qq P (typeInfo e) _ U;rw[We w];refine PT ?_;refine XP Z E ?_;refine XP B hl ?_;simp only[X7 w hz];refine Jh λ b' N=>?_;have H:sl+yl<=Question.cut (.appendCap (sl+yl) sl e) tt:=by simp only[Question.cut];omega
  refine⟨_,.refl _,h Y b' _ _ N H ?_ λ i x w=>?_⟩
  .simp only[Array.size_append,size_toArray,E,hl,Builtin.zeroCells,Array.size_map,Array.size_range,ab];rw[<- Nat.add_mul,<- Nat.add_mul];congr 1;omega
  .have:(cs.toArray++new.toArray)=(cs++new).toArray:=S1
   rw[this,Array.getElem?_append_left (by simpa using(List.getElem?_eq_some_iff.1 w).1)];simpa using w
def Zi.ints{b:Nat}{c:Array Value}{l:List Int}(h:Zi U b c)(f:∀(i:Nat)(x:Int),l[i]?=some x->c[i]?=some (.int .i64 x)):Z6 U (some ⟨b,0,none⟩) l.length l:=
 ⟨rfl,λ i x hx=>⟨_,rfl,rfl,by rw[Nat.mul_one,Qo];exact h.sees (by rw[Nat.zero_add];exact f i x hx)⟩⟩
def Xd(U:Qa T)(cs:List Value)(b:List (List Int)):Prop:=cs.length=b.length/\∀(i:Nat)(l:List Int),b[i]?=some l->∃a c,cs[i]?=some (Value.slice a l.length c)/\Z6 U.frz a l.length l/\l.length<2^60
def Xd.lg{U':Qa T}{cs:List Value}{b:List (List Int)}(h:Xd U cs b)(k:U.frz.lg U'.frz):Xd U' cs b:=⟨h.1,λ i l hl=>let ⟨a,c,e,h,g⟩:=h.2 i l hl;⟨a,c,e,h.lg k,g⟩⟩
def Xd.snoc{cs:List Value}{b:List (List Int)}{a:Option Addr}{c:Nat}{l:List Int}(h:Xd U cs b)(hl:Z6 U.frz a l.length l)(z:l.length<2^60):Xd U (cs++[Value.slice a l.length c]) (b++[l]):=by
 refine⟨by simp[h.1],λ i x hx=>?_⟩;by_cases f:i<b.length
 .rw[getElem?_append_left f]at hx;obtain⟨a',c',e,w,g⟩:=h.2 i x hx;exact⟨a',c',by rw[getElem?_append_left (by rw[h.1];exact f)];exact e,w,g⟩
 .have hlt:=(List.getElem?_eq_some_iff.1 hx).1;simp at hlt;obtain rfl:i=b.length:=O1
  simp at hx;subst hx;exact⟨a,c,by rw[<- h.1];simp,hl,z⟩
def Xd.lists{a:Option Addr}{cs:List Value}{E:List (List Int)}(h:Xd U cs E)(I:Src U.frz a cs)(w:∀f,a=some f->f.spot=none):Wx U.frz a E.length E:=by
 refine⟨rfl,λ i l hl=>?_⟩;obtain⟨a',c',e,F,g⟩:=h.2 i l hl;rcases I with⟨_,G⟩|⟨f,rfl,H⟩
 .subst G;cases e
 .refine⟨f,[.slice a' l.length c'],rfl,w _ rfl,⟨a',l.length,c',rfl,F,g⟩,rfl,λ k v B=>?_⟩;cases k with
  |zero=>
   simp at B;subst B;have:=H i _ e;have z:=w f rfl;obtain⟨b,o,s⟩:=f;cases z;rw[Qo]at this ⊢;rw[Qo,Nat.mul_one,Nat.add_zero];exact this
  |succ k=>simp at B
end Go.TM

