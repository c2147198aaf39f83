/- Lemmas. No conditions. -/
import Derived.Test.YtajkaognaiglhaaGreatDoorB18
set_option linter.all false
set_option linter.unusedSimpArgs false
open List
namespace Go.TM
variable{T:Type}{P:Program}{S:Sys P T}{U:Qa T}{f:Fm}{K:Value->Qa T->Prop}{t e n ty sl yl yc b:Nat}{x y:Operand}{sa M a:Option Addr}{cs new:List Value}{c:Array Value}{l:List Int}{w E:List (List Int)}
def Em(k:Xf P t e n)
  (hx:Zc f x=.slice sa sl sl) (hy:Zc f y=.slice M yl yc) (aa:Src U sa cs) (E:cs.length=sl*n) (B:Src U M new) (G:new.length=yl*n) (ae:cs.length+new.length<=1048576)
  (h0:new=[]->K (.slice sa sl sl) U) (h:new≠[]->∀(b:Nat)(c:Array Value)(cap:Nat),U.free b->sl+yl<=cap->c.size=cap*n->(∀(i:Nat)(x:Value),(cs++new)[i]?=some x->c[i]?=some x)->K (.slice (some ⟨b,0,none⟩) (sl+yl) cap) (U.put b (.cells c e))) :
  OX S (.rw (.call { callee:=.builtin .append,args:=#[x,y],argTypes:=#[t,t] }) ty) f K U:=by
 obtain⟨F,z,w,ab,hz,ac,T,H⟩:=k.i;have hu:=k.u;have Y:=k.n;intro a' X;have hm:(#[x,y]:Array Operand).map a'.eval=#[.slice sa sl sl,.slice M yl yc]:=by simp[X,hx,hy]
 simp only[execOp,resolve,hm,Qc,Qi,invoke,builtin];show Qw P (Builtin.append_ #[t,t] ty #[.slice sa sl sl,.slice M yl yc]) _ U;unfold Builtin.append_;simp only[getElem?_toArray,getElem?_cons_zero,getElem?_cons_succ,Qc,Zi hu,Ji w,ab,Qi,Bool.false_eq_true,if_false,Builtin.lenOf,Wl w,false_or,Bool.not_false,if_true];have af:sl<=cs.length:=by rw[E];exact Nat.le_mul_of_pos_right _ Y
 have ag:yl<=new.length:=by rw[G];exact Nat.le_mul_of_pos_right _ Y
 split
 .rename_i hle;rw[Qc];refine XY B G ?_;obtain rfl:yl=0:=O1
  have L:new=[]:=eq_nil_of_length_eq_zero (by rw[G];omega);subst L;cases sa with
  |none=>exact⟨U,.refl _,h0 rfl⟩
  |some ad=>
   simp only[Qc];refine GX _ _ _ ?_;exact⟨U,.refl _,h0 rfl⟩
 .rename_i hgt
  have Z:new≠[]:=by
   rintro rfl;have h1:0<yl*n:=Nat.mul_pos O1 Y;rw[<- G]at h1;exact absurd h1 S1
  have V:¬(((sl+yl:Nat):Int) > IntKind.i64.max/\F.bytes=0):=λ h=>T h.2
  have W:¬(Builtin.nextslicecap (sl+yl) sl*F.bytes > 2^48):=by
   have:=QG (need:=sl+yl) (old:=sl) O1;have h2:Builtin.nextslicecap (sl+yl) sl*F.bytes<=(2*(sl+yl)+192)*1024:=Nat.mul_le_mul this H;have N:(2:Nat)^48=281474976710656:=D1
   rw[N];omega
  simp only[Wl w,Qc];rw[if_neg V];simp only[Wl w,Qc];rw[if_neg W];simp only[choose,Qc];show ∀tt,Qw P _ _ U;intro tt;show Qw P (typeInfo e) _ U;rw[Wl w];refine PD ?_;refine XY aa E ?_;refine XY B G ?_;simp only[XC w hz];refine Jm λ b' Q=>?_;have I:sl+yl<=Question.cut (.appendCap (sl+yl) sl e) tt:=by simp only[Question.cut];omega
  refine⟨_,.refl _,h Z b' _ _ Q I ?_ λ i x w=>?_⟩
  .simp only[Array.size_append,size_toArray,E,G,Builtin.zeroCells,Array.size_map,Array.size_range,ac];rw[<- Nat.add_mul,<- Nat.add_mul];congr 1;omega
  .have:(cs.toArray++new.toArray)=(cs++new).toArray:=S1
   rw[this,Array.getElem?_append_left (by simpa using(List.getElem?_eq_some_iff.1 w).1)];simpa using w
def Zo.ints(h:Zo U b c)(e:∀(i:Nat)(x:Int),l[i]?=some x->c[i]?=some (.int .i64 x)):Z8 U (some ⟨b,0,none⟩) l.length l:=
 ⟨rfl,λ i x f=>⟨_,rfl,rfl,by rw[Nat.mul_one,Qu];exact h.sees (by rw[Nat.zero_add];exact e i x f)⟩⟩
def Xr(U:Qa T)(cs:List Value)(e:List (List Int)):Prop:=cs.length=e.length/\∀(i:Nat)(l:List Int),e[i]?=some l->∃a c,cs[i]?=some (Value.slice a l.length c)/\Z8 U.frz a l.length l/\l.length<2^60
def Xr.lg{U':Qa T}{cs:List Value}{f:List (List Int)}(h:Xr U cs f)(k:U.frz.lg U'.frz):Xr U' cs f:=⟨h.1,λ i l w=>let ⟨a,c,e,h,g⟩:=h.2 i l w;⟨a,c,e,h.lg k,g⟩⟩
def Xr.snoc(h:Xr U cs w)(F:Z8 U.frz a l.length l)(G:l.length<2^60):Xr U (cs++[Value.slice a l.length yl]) (w++[l]):=by
 refine⟨by simp[h.1],λ i x f=>?_⟩;by_cases z:i<w.length
 .rw[getElem?_append_left z]at f;obtain⟨a',B,e,E,g⟩:=h.2 i x f;exact⟨a',B,by rw[getElem?_append_left (by rw[h.1];exact z)];exact e,E,g⟩
 .have hlt:=(List.getElem?_eq_some_iff.1 f).1;simp at hlt;obtain rfl:i=w.length:=O1
  simp at f;subst f;exact⟨a,yl,by rw[<- h.1];simp,F,G⟩
def Xr.lists(h:Xr U cs E)(L:Src U.frz a cs)(w:∀f,a=some f->f.spot=none):Wt U.frz a E.length E:=by
 refine⟨rfl,λ i l H=>?_⟩;obtain⟨a',F,e,G,g⟩:=h.2 i l H;rcases L with⟨_,I⟩|⟨f,rfl,K⟩
 .subst I;cases e
 .refine⟨f,[.slice a' l.length F],rfl,w _ rfl,⟨a',l.length,F,rfl,G,g⟩,rfl,λ k v B=>?_⟩;cases k with
  |zero=>
   simp at B;subst B;have:=K i _ e;have z:=w f rfl;obtain⟨b,o,s⟩:=f;cases z;rw[Qu]at this ⊢;rw[Qu,Nat.mul_one,Nat.add_zero];exact this
  |succ k=>simp at B
