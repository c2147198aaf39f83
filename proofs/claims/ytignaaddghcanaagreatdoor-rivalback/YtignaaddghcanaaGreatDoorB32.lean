/- Lemmas. No conditions. -/
import Derived.Test.YtignaaddghcanaaGreatDoorB31
set_option linter.all false
set_option linter.unusedSimpArgs false
open List
namespace Go.TM
variable{T:Type}{P:Program}{S:Sys P T}{U:Qa T}{d:Fm}{K:Value->Qa T->Prop}{t e n ty sl yl yc b:Nat}{x y:Operand}{sa N a:Option Addr}{cs new:List Value}{c:Array Value}{l:List Int}{f E:List (List Int)}
def Db(k:X3 P t e n)
  (hx:Zg d x=.slice sa sl sl) (hy:Zg d y=.slice N yl yc) (ab:Src U sa cs) (E:cs.length=sl*n) (B:Src U N new) (G:new.length=yl*n) (ag:cs.length+new.length<=1048576)
  (h0:new=[]->K (.slice sa sl sl) U) (h:new≠[]->∀(b:Nat)(c:Array Value)(cap:Nat),U.free b->sl+yl<=cap->c.size=cap*n->(∀(i:Nat)(x:Value),(cs++new)[i]?=some x->c[i]?=some x)->K (.slice (some ⟨b,0,none⟩) (sl+yl) cap) (U.put b (.cells c e))) :
  OX S (.rw (.call { callee:=.builtin .append,args:=#[x,y],argTypes:=#[t,t] }) ty) d K U:=by
 obtain⟨F,z,w,ac,hz,ae,V,H⟩:=k.i;have hu:=k.u;have Z:=k.n;intro a' Y;have hm:(#[x,y]:Array Operand).map a'.eval=#[.slice sa sl sl,.slice N yl yc]:=by simp[Y,hx,hy]
 simp only[execOp,resolve,hm,Qd,Qk,invoke,builtin];show Qq P (Builtin.append_ #[t,t] ty #[.slice sa sl sl,.slice N yl yc]) _ U;unfold Builtin.append_;simp only[getElem?_toArray,getElem?_cons_zero,getElem?_cons_succ,Qd,Ze hu,Je w,ac,Qk,Bool.false_eq_true,if_false,Builtin.lenOf,We w,false_or,Bool.not_false,if_true];have ah:sl<=cs.length:=by rw[E];exact Nat.le_mul_of_pos_right _ Z
 have ai:yl<=new.length:=by rw[G];exact Nat.le_mul_of_pos_right _ Z
 split
 .rename_i hle;rw[Qd];refine XK B G ?_;obtain rfl:yl=0:=O1
  have L:new=[]:=eq_nil_of_length_eq_zero (by rw[G];omega);subst L;cases sa with
  |none=>exact⟨U,.refl _,h0 rfl⟩
  |some ad=>
   simp only[Qd];refine GQ _ _ _ ?_;exact⟨U,.refl _,h0 rfl⟩
 .rename_i hgt
  have aa:new≠[]:=by
   rintro rfl;have h1:0<yl*n:=Nat.mul_pos O1 Z;rw[<- G]at h1;exact absurd h1 S1
  have W:¬(((sl+yl:Nat):Int) > IntKind.i64.max/\F.bytes=0):=λ h=>V h.2
  have X:¬(Builtin.nextslicecap (sl+yl) sl*F.bytes > 2^48):=by
   have:=QD (need:=sl+yl) (old:=sl) O1;have h2:Builtin.nextslicecap (sl+yl) sl*F.bytes<=(2*(sl+yl)+192)*1024:=Nat.mul_le_mul this H;have Q:(2:Nat)^48=281474976710656:=D1
   rw[Q];omega
  simp only[We w,Qd];rw[if_neg W];simp only[We w,Qd];rw[if_neg X];simp only[choose,Qd];show ∀tt,Qq P _ _ U;intro tt;show Qq P (typeInfo e) _ U;rw[We w];refine PG ?_;refine XK ab E ?_;refine XK B G ?_;simp only[Xk w hz];refine Jg λ b' T=>?_;have I:sl+yl<=Question.cut (.appendCap (sl+yl) sl e) tt:=by simp only[Question.cut];omega
  refine⟨_,.refl _,h aa b' _ _ T I ?_ λ i x w=>?_⟩
  .simp only[Array.size_append,size_toArray,E,G,Builtin.zeroCells,Array.size_map,Array.size_range,ae];rw[<- Nat.add_mul,<- Nat.add_mul];congr 1;omega
  .have:(cs.toArray++new.toArray)=(cs++new).toArray:=S1
   rw[this,Array.getElem?_append_left (by simpa using(List.getElem?_eq_some_iff.1 w).1)];simpa using w
def Zj.ints(h:Zj U b c)(f:∀(i:Nat)(x:Int),l[i]?=some x->c[i]?=some (.int .i64 x)):Z3 U (some ⟨b,0,none⟩) l.length l:=
 ⟨rfl,λ i x w=>⟨_,rfl,rfl,by rw[Nat.mul_one,Qo];exact h.sees (by rw[Nat.zero_add];exact f i x w)⟩⟩
def Xa(U:Qa T)(cs:List Value)(b:List (List Int)):Prop:=cs.length=b.length/\∀(i:Nat)(l:List Int),b[i]?=some l->∃a c,cs[i]?=some (Value.slice a l.length c)/\Z3 U.frz a l.length l/\l.length<2^60
def Xa.lg{U':Qa T}{cs:List Value}{b:List (List Int)}(h:Xa U cs b)(k:U.frz.lg U'.frz):Xa U' cs b:=⟨h.1,λ i l d=>let ⟨a,c,e,h,g⟩:=h.2 i l d;⟨a,c,e,h.lg k,g⟩⟩
def Xa.snoc(h:Xa U cs f)(E:Z3 U.frz a l.length l)(F:l.length<2^60):Xa U (cs++[Value.slice a l.length yl]) (f++[l]):=by
 refine⟨by simp[h.1],λ i x b=>?_⟩;by_cases w:i<f.length
 .rw[getElem?_append_left w]at b;obtain⟨a',z,e,B,g⟩:=h.2 i x b;exact⟨a',z,by rw[getElem?_append_left (by rw[h.1];exact w)];exact e,B,g⟩
 .have hlt:=(List.getElem?_eq_some_iff.1 b).1;simp at hlt;obtain rfl:i=f.length:=O1
  simp at b;subst b;exact⟨a,yl,by rw[<- h.1];simp,E,F⟩
def Xa.lists(h:Xa U cs E)(L:Src U.frz a cs)(w:∀d,a=some d->d.spot=none):Wl U.frz a E.length E:=by
 refine⟨rfl,λ i l H=>?_⟩;obtain⟨a',F,e,G,g⟩:=h.2 i l H;rcases L with⟨_,I⟩|⟨d,rfl,K⟩
 .subst I;cases e
 .refine⟨d,[.slice a' l.length F],rfl,w _ rfl,⟨a',l.length,F,rfl,G,g⟩,rfl,λ k v B=>?_⟩;cases k with
  |zero=>
   simp at B;subst B;have:=K i _ e;have z:=w d rfl;obtain⟨b,o,s⟩:=d;cases z;rw[Qo]at this ⊢;rw[Qo,Nat.mul_one,Nat.add_zero];exact this
  |succ k=>simp at B
