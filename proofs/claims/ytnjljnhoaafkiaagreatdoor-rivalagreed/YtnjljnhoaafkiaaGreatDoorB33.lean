/- Lemmas. No conditions. -/
import Derived.Test.YtnjljnhoaafkiaaGreatDoorB32
set_option linter.all false
set_option linter.unusedSimpArgs false
open List
namespace Go.TM
variable{T:Type}{P:Program}{S:Sys P T}{U:Qa T}{f:Fm}{K:Value->Qa T->Prop}{t e n ty sl yl yc:Nat}{x y:Operand}{sa I a:Option Addr}{cs new:List Value}{c:Array Value}{l:List Int}{b F:List (List Int)}
def Du(k:X7 P t e n)
  (hx:Zf f x=.slice sa sl sl) (hy:Zf f y=.slice I yl yc) (Y:Src U sa cs) (B:cs.length=sl*n) (w:Src U I new) (hl:new.length=yl*n) (ab:cs.length+new.length<=1048576)
  (h0:new=[]->K (.slice sa sl sl) U) (h:new≠[]->∀(b:Nat)(c:Array Value)(cap:Nat),U.free b->sl+yl<=cap->c.size=cap*n->(∀(i:Nat)(x:Value),(cs++new)[i]?=some x->c[i]?=some x)->K (.slice (some ⟨b,0,none⟩) (sl+yl) cap) (U.put b (.cells c e))) :
  OX S (.rw (.call { callee:=.builtin .append,args:=#[x,y],argTypes:=#[t,t] }) ty) f K U:=by
 obtain⟨E,z,hi,Z,hz,aa,N,F⟩:=k.i;have hu:=k.u;have W:=k.n;intro a' V;have hm:(#[x,y]:Array Operand).map a'.eval=#[.slice sa sl sl,.slice I yl yc]:=by simp[V,hx,hy]
 simp only[execOp,resolve,hm,Qd,Qi,invoke,builtin];show Qq P (Builtin.append_ #[t,t] ty #[.slice sa sl sl,.slice I yl yc]) _ U;unfold Builtin.append_;simp only[getElem?_toArray,getElem?_cons_zero,getElem?_cons_succ,Qd,Ze hu,Jd hi,Z,Qi,Bool.false_eq_true,if_false,Builtin.lenOf,We hi,false_or,Bool.not_false,if_true];have ac:sl<=cs.length:=by rw[B];exact Nat.le_mul_of_pos_right _ W
 have ae:yl<=new.length:=by rw[hl];exact Nat.le_mul_of_pos_right _ W
 split
 .rename_i hle;rw[Qd];refine XR w hl ?_;obtain rfl:yl=0:=O1
  have H:new=[]:=eq_nil_of_length_eq_zero (by rw[hl];omega);subst H;cases sa with
  |none=>exact⟨U,.refl _,h0 rfl⟩
  |some ad=>
   simp only[Qd];refine Ww _ _ _ ?_;exact⟨U,.refl _,h0 rfl⟩
 .rename_i hgt
  have X:new≠[]:=by
   rintro rfl;have h1:0<yl*n:=Nat.mul_pos O1 W;rw[<- hl]at h1;exact absurd h1 S1
  have Q:¬(((sl+yl:Nat):Int) > IntKind.i64.max/\E.bytes=0):=λ h=>N h.2
  have T:¬(Builtin.nextslicecap (sl+yl) sl*E.bytes > 2^48):=by
   have:=QF (need:=sl+yl) (old:=sl) O1;have h2:Builtin.nextslicecap (sl+yl) sl*E.bytes<=(2*(sl+yl)+192)*1024:=Nat.mul_le_mul this F;have L:(2:Nat)^48=281474976710656:=D1
   rw[L];omega
  simp only[We hi,Qd];rw[if_neg Q];simp only[We hi,Qd];rw[if_neg T];simp only[choose,Qd];show ∀tt,Qq P _ _ U;intro tt;show Qq P (typeInfo e) _ U;rw[We hi];refine PV ?_;refine XR Y B ?_;refine XR w hl ?_;simp only[X8 hi hz];refine Jh λ b' M=>?_;have G:sl+yl<=Question.cut (.appendCap (sl+yl) sl e) tt:=by simp only[Question.cut];omega
  refine⟨_,.refl _,h X b' _ _ M G ?_ λ i x hi=>?_⟩
  .simp only[Array.size_append,size_toArray,B,hl,Builtin.zeroCells,Array.size_map,Array.size_range,aa];rw[<- Nat.add_mul,<- Nat.add_mul];congr 1;omega
  .have:(cs.toArray++new.toArray)=(cs++new).toArray:=S1
   rw[this,Array.getElem?_append_left (by simpa using(Zz4 hi))];simpa using hi
def Zi.ints(h:Zi U yl c)(f:∀(i:Nat)(x:Int),l[i]?=some x->c[i]?=some (.int .i64 x)):Z6 U (some ⟨yl,0,none⟩) l.length l:=
 ⟨rfl,λ i x hx=>⟨_,rfl,rfl,by rw[Nat.mul_one,Qo];exact h.sees (by rw[Nat.zero_add];exact f i x hx)⟩⟩
def Xe(U:Qa T)(cs:List Value)(b:List (List Int)):Prop:=cs.length=b.length/\∀(i:Nat)(l:List Int),b[i]?=some l->∃a c,cs[i]?=some (Value.slice a l.length c)/\Z6 U.frz a l.length l/\l.length<2^60
def Xe.lg{U':Qa T}{cs:List Value}{b:List (List Int)}(h:Xe U cs b)(k:U.frz.lg U'.frz):Xe U' cs b:=⟨h.1,λ i l hl=>let ⟨a,c,e,h,g⟩:=h.2 i l hl;⟨a,c,e,h.lg k,g⟩⟩
def Xe.snoc(h:Xe U cs b)(hl:Z6 U.frz a l.length l)(w:l.length<2^60):Xe U (cs++[Value.slice a l.length yl]) (b++[l]):=by
 refine⟨by simp[h.1],λ i x hx=>?_⟩;by_cases hi:i<b.length
 .rw[getElem?_append_left hi]at hx;obtain⟨a',c',e,f,g⟩:=h.2 i x hx;exact⟨a',c',by rw[getElem?_append_left (by rw[h.1];exact hi)];exact e,f,g⟩
 .have hlt:=(Zz4 hx);simp at hlt;obtain rfl:i=b.length:=O1
  simp at hx;subst hx;exact⟨a,yl,by rw[<- h.1];simp,hl,w⟩
def Xe.lists(h:Xe U cs F)(K:Src U.frz a cs)(w:∀f,a=some f->f.spot=none):Wx U.frz a F.length F:=by
 refine⟨rfl,λ i l hl=>?_⟩;obtain⟨a',c',e,G,g⟩:=h.2 i l hl;rcases K with⟨_,H⟩|⟨f,rfl,I⟩
 .subst H;cases e
 .refine⟨f,[.slice a' l.length c'],rfl,w _ rfl,⟨a',l.length,c',rfl,G,g⟩,rfl,λ k v E=>?_⟩;cases k with
  |zero=>
   simp at E;subst E;have:=I i _ e;have B:=w f rfl;obtain⟨b,o,s⟩:=f;cases B;rw[Qo]at this ⊢;rw[Qo,Nat.mul_one,Nat.add_zero];exact this
  |succ k=>simp at E
