/- Lemmas. No conditions. -/
import Derived.Test.YtajkaognaiglhaaGreatDoorB28
import Derived.Test.YtajkaognaiglhaaGreatDoorC01
import Derived.Test.YtajkaognaiglhaaGreatDoorC03
import Derived.Test.YtajkaognaiglhaaGreatDoorC02
set_option linter.all false
set_option maxRecDepth 100000
open List
namespace Go.TM
variable{T:Type}{P:Program}{S:Sys P T}{U:Qa T}
def Zcj(s:ByteArray):Nat->List ByteArray->Int
 |_,[]=>-1
 |i,x::l=>if x=s then i else Zcj s (i+1) l
def Zcl(s:ByteArray):∀(l:List ByteArray)(i:Nat),decide (Zcj s i l ≥ 0)=JJ l s
 |[],_=>rfl
 |x::l,i=>by
  unfold Zcj JJ;rw[any_cons];by_cases e:x=s
  .rw[if_pos e];simp[e]
  .rw[if_neg e,decide_eq_false e,Bool.false_or];exact Zcl s l (i+1)
def Zdm(s x:ByteArray)(i:Nat)(l:List ByteArray):Zcj s i (x::l)=if x=s then(i:Int)else Zcj s (i+1) l:=rfl
def Q0l{b:Int}:∀{l:List Int}{p:Option Int}{n:Int},ZB b p l=0->ZB b p (l++[n])=if Q_ n 0 (b-1)then(match(l.getLast?).or p with|some m=>if n<=m then 7 else 0|none=>0)else 6
 |[],p,n,_=>by
  rw[nil_append,Pn];cases p <;> rfl
 |x::l,p,n,h=>by
  rw[Pn]at h;rw[cons_append,Pn];split at h
  .rename_i hb;rw[if_pos hb]
   have key:ZB b (some x) l=0->ZB b (some x) (l++[n])=if Q_ n 0 (b-1)then(match((x::l).getLast?).or p with|some m=>if n<=m then 7 else 0|none=>0)else 6:=λ h=>by
    rw[Q0l h];cases l with
    |nil=>simp
    |cons y l=>
     rw[getLast?_cons_cons];obtain⟨z,e⟩:∃z,(y::l).getLast?=some z:=⟨_,getLast?_eq_some_getLast (cons_ne_nil y l)⟩;rw[e];rfl
   cases p with
   |none=>exact key h
   |some m=>
    simp only at h ⊢;split at h
    .cases h
    .rename_i hm;rw[if_neg hm];exact key h
  .cases h
def Qtq{b:Int}:∀{l l':List Int}{p:Option Int},ZB b p l≠0->ZB b p (l++l')=ZB b p l
 |[],_,_,h=>absurd rfl h
 |x::l,l',p,h=>by
  rw[Pn]at h;rw[cons_append,Pn,Pn];split at h
  .rename_i hb;rw[if_pos hb,if_pos hb];cases p with
   |none=>exact Qtq h
   |some m=>
    simp only at h ⊢;split at h
    .rename_i hm;rw[if_pos hm,if_pos hm]
    .rename_i hm;rw[if_neg hm,if_neg hm];exact Qtq h
  .rename_i hb;rw[if_neg hb,if_neg hb]
end Go.TM
namespace Go.Proofs
open Go.TM
variable{T:Type}{S:TM.Sys Tryz.prog T}{U:Qa T}
attribute [local irreducible] Qb Zr W5
def Q0n(a:Option Addr)(len cap:Nat)(l:List ByteArray)(F:Zd U a len 1 l λ s vs=>vs=[.string s])(G:len<2^60)(s:ByteArray) :
  Qb S 80 #[.slice a len cap,.string s] (λ v U'=>v=.int .i64 (Zcj s 0 l)/\U'=U) U:=by
 refine Qb.of (args:=[_,_]) Q9r Qd S1 ?_;have I:=F.1;refine⟨Nat,λ i=>[(0,.slice a len cap),(1,.string s),(5,.int .i64 i)],λ i U'=>U'=U/\i<=len/\Zcj s 0 l=Zcj s i (l.drop i),λ i=>len-i,0,T1,⟨rfl,O1,rfl⟩,?_⟩;rintro i f _⟨rfl,M,w⟩;have B:Je ((i:Int)+1):=I1
 repeat refine⟨rfl,?_⟩
 conv=>whnf
 apply Qe<;>intro z
 .have hlt:i<len:=by simpa using z
  obtain⟨H,x,vs,L,rfl,K,rfl,-,E⟩:=F.at hlt;rw[Hh L,Zdm]at w;refine⟨H,i,⟨rfl,rfl,hlt⟩,_,E 0 _ rfl,?_⟩
  repeat refine⟨rfl,?_⟩
  conv=>whnf
  apply Qe<;>intro z
  .have e:x=s:=by rw[Qo6]at z;simpa using z
   rw[if_pos e]at w;rw[w]
   repeat refine⟨rfl,?_⟩
   conv=>whnf
  .have e:x≠s:=by rw[Qo6]at z;simpa using z
   rw[if_neg e]at w;refine⟨B,?_⟩
   conv=>whnf
   exact⟨rfl,i+1,T1,⟨rfl,O1,w⟩,L1⟩
 .have hge:i=len:=by simp at z;omega
  rw[drop_eq_nil_of_le O1]at w;rw[w]
  repeat refine⟨rfl,?_⟩
  conv=>whnf
def Qfj(a:Option Addr)(len cap:Nat)(l:List Int)(N:Z8 U a len l)(T:len<2^60)(n:Nat)(hn:n<2^60) :
  Qb S 115 #[.slice a len cap,.int .i64 n] (λ v U'=>v=.int .i64 (ZB n none l)/\U'=U) U:=by
 refine Qb.pure' (Qb.of (args:=[_,_]) Qk8 Qd S1 ?_);have ab:=N.1;have I:Je ((n:Int)-1):=I1
 refine⟨Nat,λ i=>[(0,.slice a len cap),(1,.int .i64 n),(5,.int .i64 i)],λ i U'=>U.lg U'/\i<=len/\ZB n none (l.take i)=0,λ i=>len-i,0,T1,⟨(Qa.le.refl _).lg,O1,rfl⟩,?_⟩;rintro i f Y⟨w,hi,z⟩;have H:Je ((i:Int)+1):=I1
 repeat refine⟨rfl,?_⟩
 conv=>whnf
 apply Qe<;>intro F
 .have hlt:i<len:=by simpa using F
  obtain⟨L,x,hx,rfl,ac,V⟩:=(N.lg w).at hlt;have e:ZB n none (l.take (i+1))=if Q_ x 0 ((n:Int)-1)then(match((l.take i).getLast?).or none with|some m=>if x<=m then 7 else 0|none=>0)else 6:=by rw[Wm hx];exact Q0l z
  have E:ZB n none (l.take (i+1))≠0->ZB n none l=ZB n none (l.take (i+1)):=λ h=>by
   have:=Qtq (l':=l.drop (i+1)) h
   rwa [take_append_drop]at this
  refine⟨L,i,⟨rfl,rfl,hlt⟩,_,V,I,L8.any,(Zbk Y x 0 ((n:Int)-1)).go λ _=>?_⟩;cases Q:Q_ x 0 ((n:Int)-1)with
  |false=>
   rw[Q,if_neg S1]at e;rw[E (by rw[e];decide),e]
   repeat refine⟨rfl,?_⟩
   conv=>whnf
   exact w
  |true=>
   rw[if_pos Q]at e
   repeat refine⟨rfl,?_⟩
   conv=>whnf
   apply Jb<;>intro F
   .have h0:0<i:=by simpa using F
    obtain⟨j,rfl⟩:∃j,i=j+1:=⟨i-1,O1⟩;obtain⟨y,X⟩:∃y,l[j]?=some y:=⟨_,getElem?_eq_getElem O1⟩;have G:(l.take (j+1)).getLast?=some y:=by rw[Wm X];simp
    rw[G,Option.some_or]at e;simp only at e;obtain⟨aa,e',W,P⟩:=(N.lg w).2 j y X;cases e';have K:Je (((j+1:Nat):Int)-1):=I1
    have M:((j+1:Nat):Int)-1=(j:Int):=O1
    refine⟨L,j+1,⟨rfl,rfl,hlt⟩,_,V,K,?_⟩;rw[M];refine⟨L,j,⟨rfl,rfl,O1⟩,_,P,?_⟩
    conv=>whnf
    intro Z B _
    repeat refine⟨rfl,?_⟩
    conv=>whnf
    apply Qe<;>intro F
    .have hle:x<=y:=by simpa using F
     rw[if_pos hle]at e;rw[E (by rw[e];decide),e]
     repeat refine⟨rfl,?_⟩
     conv=>whnf
     exact w.trans B.lg
    .have hle:¬x<=y:=by simp at F;omega
     rw[if_neg hle]at e;refine⟨H,?_⟩
     conv=>whnf
     exact⟨rfl,j+1+1,T1,⟨w.trans B.lg,O1,e⟩,L1⟩
   .have h0:i=0:=by simp at F;omega
    subst h0;have e:ZB n none (l.take (0+1))=0:=e
    conv=>whnf
    intro Z B _;refine⟨H,?_⟩
    conv=>whnf
    exact⟨rfl,0+1,T1,⟨w.trans B.lg,O1,e⟩,L1⟩
 .have hge:i=len:=by simp at F;omega
  rw[take_of_length_le O1]at z;rw[z]
  repeat refine⟨rfl,?_⟩
  conv=>whnf
  exact w
def Q1v(h:BH)(b:Bk)(hb:Zt U.frz h b)(ao:b.Low)(two:Nat)(h2:two<60):∀(s one:Nat),s<=60->one<b.cs.length ->
  Qb S 74 #[h.v,.int .i64 one,.int .i64 two,.int .i64 s] (λ v U'=>v=.bool (WK b.A two s one)/\U'=U) U:=by
 have ay:=hb.cs.1;intro s
 induction s generalizing U with
 |zero=>
  intro one hs ae;refine Qb.pure' (Qb.of (args:=[_,_,_,_]) Qk6 Qd S1 ?_)
  repeat refine⟨rfl,?_⟩
  conv=>whnf
  intro B Q z K;have K:Zo Q B #[.slice h.ra h.rl h.rc,.slice h.ca h.cl h.cc]:=K;obtain⟨W,c,ga,gl,gc,aa,al,ac,hx,F,ai,P,-,-,ha,ak,G⟩:=(hb.lg z.lg.frz2).case (show one<h.cl by omega);refine⟨Unit,λ _=>[(1,.int .i64 one),(2,.int .i64 two),(3,.int .i64 0),(4,.pointer (some ⟨B,0,none⟩)),(9,.int .i64 0)],λ _ U'=>U'=Q,λ _=>0,(),T1,rfl,?_⟩;rintro _ f _ rfl;refine⟨_,K.sees3 (o:=1) rfl,W,one,⟨F,rfl,O1⟩,_,(P.lg Qy).cell (i:=3) rfl,?_⟩
  repeat refine⟨rfl,?_⟩
  conv=>whnf
  apply Jb<;>intro V
  .repeat refine⟨rfl,?_⟩
   conv=>whnf
   exact z.lg
  .repeat refine⟨rfl,?_⟩
   conv=>whnf
   exact z.lg
 |succ s ih=>
  intro one hs ae;refine Qb.pure' (Qb.of (args:=[_,_,_,_]) Qk6 Qd S1 ?_)
  repeat refine⟨rfl,?_⟩
  conv=>whnf
  intro B Q z K;have K:Zo Q B #[.slice h.ra h.rl h.rc,.slice h.ca h.cl h.cc]:=K;obtain⟨W,c,ga,gl,gc,aa,al,ac,hx,F,ai,P,-,-,ha,ak,G⟩:=(hb.lg z.lg.frz2).case (show one<h.cl by omega);have am:=Bk.aft1_at hx;have aw:=ha.1;have X:=ao.af c G;have hm:WK b.A two (s+1) one=(c.af.map Int.toNat).any λ k=>k==two|| WK b.A two s k:=by rw[<- am];rfl
  rw[hm];have Z:Je (((s+1:Nat):Int)-1):=I1
  have ap:((s+1:Nat):Int)-1=(s:Int):=O1
  have ah:decide (((s+1:Nat):Int) > 0)=true:=decide_eq_true O1;refine⟨Nat,λ i=>[(1,.int .i64 one),(2,.int .i64 two),(3,.int .i64 (s+1:Nat)),(4,.pointer (some ⟨B,0,none⟩)),(9,.int .i64 i)],λ i U'=>Q.lg U'/\i<=al/\((c.af.take i).map Int.toNat).any (λ k=>k==two|| WK b.A two s k)=false,λ i=>al-i,0,T1,⟨(Qa.le.refl _).lg,O1,S1⟩,?_⟩;rintro i f U2⟨e,hi,N⟩;have an:Je ((i:Int)+1):=I1
  have H:Ju U2 (W.add (one*4)) [.string c.nm,.int .i64 c.ag,.slice ga gl gc,.slice aa al ac]:=(P.lg Qy).lg e;have L:=K.lg e;have E:∀{w:Qa T},Q.lg w->U.lg w:=λ h=>z.lg.trans h;refine⟨_,L.sees3 (o:=1) rfl,W,one,⟨F,rfl,O1⟩,_,H.cell (i:=3) rfl,?_⟩
  repeat refine⟨rfl,?_⟩
  conv=>whnf
  apply Jb<;>intro V
  .have hlt:i<al:=by simpa using V
   repeat refine⟨rfl,?_⟩
   conv=>whnf
   rw[ah];obtain⟨aj,x,hy,rfl,ax,aq⟩:=((ha.lg Qy).lg e).at hlt;obtain⟨au,av⟩:=X x (mem_of_getElem? hy);obtain⟨k,rfl⟩:=Int.eq_ofNat_of_zero_le au;have hk:k<b.cs.length:=by unfold Bk.nc at av;omega
   have Y:((c.af.take (i+1)).map Int.toNat).any (λ k=>k==two|| WK b.A two s k)=(k==two|| WK b.A two s k):=by
    rw[Wm hy,map_append,any_append,N];simp
   have I:(k==two|| WK b.A two s k)=true->(c.af.map Int.toNat).any (λ k=>k==two|| WK b.A two s k)=true:=λ h=>by
    rw[any_eq_true];exact⟨k,mem_map.2 ⟨(k:Int),mem_of_getElem? hy,S1⟩,h⟩
   refine⟨_,L.sees3 (o:=1) rfl,W,one,⟨F,rfl,O1⟩,_,H.cell (i:=3) rfl,aj,i,⟨rfl,rfl,hlt⟩,_,aq,?_⟩
   repeat refine⟨rfl,?_⟩
   conv=>whnf
   apply Jb<;>intro V
   .have hne:k≠two:=by
     have M:((k:Int)==(two:Int))=false:=V;have:=ne_of_beq_false M;omega
    refine⟨_,⟨rfl,L.rd⟩,?_⟩;refine⟨Z,?_⟩;rw[ap];refine⟨Qk6.any,(ih (U:=U2) ((hb.lg z.lg.frz2).lg e.frz2) k O1 hk).go λ _=>?_⟩;cases ab:WK b.A two s k with
    |true=>
     rw[I (by rw[ab];simp)]
     repeat refine⟨rfl,?_⟩
     conv=>whnf
     exact E e
    |false=>
     refine⟨an,?_⟩
     conv=>whnf
     exact⟨rfl,i+1,T1,⟨e,O1,by rw[Y,ab];simpa using hne⟩,L1⟩
   .have he:k=two:=by
     have M:((k:Int)==(two:Int))=true:=V;have:=eq_of_beq M;omega
    rw[I (by simp[he])]
    repeat refine⟨rfl,?_⟩
    conv=>whnf
    exact E e
  .have hge:i=al:=by simp at V;omega
   rw[take_of_length_le O1]at N;rw[N]
   repeat refine⟨rfl,?_⟩
   conv=>whnf
   exact E e
end Go.Proofs
namespace Go.TM
variable{T:Type}{P:Program}{S:Sys P T}{U:Qa T}
def Zdi(c:UInt8):IntKind.wrap .i64 (c.toNat:Int)=c.toNat:=by
 have:=c.toNat_lt;simp only[IntKind.wrap,IntKind.signed,IntKind.bits];simp;omega
def Zen{s:ByteArray}{i:Nat}{c:UInt8}(h:s.data.toList[i]?=some c):s[i]?=some c:=by
 rw[<- h];have:s[i]?=s.data[i]?:=rfl;rw[this,Array.getElem?_toList]
def Q0b(c:UInt8):Bool:=Q_ (c.toNat:Int) 97 122
def Zch(c:UInt8):Bool:=Q_ (c.toNat:Int) 48 57
def Zbi(c:UInt8):GM c=(!Q0b c&&!Zch c):=by
 unfold GM Q0b Zch Q_;rw[Bool.eq_iff_iff];simp
def Qow:List UInt8->Nat->Bool
 |[],_=>true
 |c::r,i=>(Q0b c|| (Zch c&&!decide (i=0)))&&Qow r (i+1)
def Zcn:∀(l:List UInt8)(i:Nat),0<i->Qow l i=!(l.any GM)
 |[],_,_=>rfl
 |c::r,i,h=>by
  rw[Qow,Zcn r (i+1) O1,any_cons,Zbi,Bool.not_or,Bool.not_and,Bool.not_not,Bool.not_not];have:decide (i=0)=false:=decide_eq_false O1;rw[this];cases Q0b c <;> cases Zch c <;> rfl
def Zdu(s:ByteArray):Zk s=(Q_ s.size 1 10&&Qow s.data.toList 0):=by
 unfold Zk;have e:s.size=s.data.toList.length:=(Array.length_toList (xs:=s.data)).symm;cases h:s.data.toList with
 |nil=>
  have:Q_ (s.size:Int) 1 10=false:=by unfold Q_;rw[e,h];rfl
  rw[this];rfl
 |cons c r=>
  congr 1;rw[Qow,Zcn r 1 O1,any_cons,Zbi,Bool.not_or,Bool.not_and,Bool.not_not,Bool.not_not]
  have f:(!(decide ((c.toNat:Int)<97))&&!(decide ((c.toNat:Int) > 122)))=Q0b c:=by
   unfold Q0b Q_;rw[Bool.eq_iff_iff];simp only[Bool.and_eq_true,Bool.not_eq_true',decide_eq_false_iff_not,decide_eq_true_eq];omega
  simp only[f];cases Q0b c <;> simp
def Qx5(nr nc:Int)(seen:List ByteArray)(c:Cs):Int:=
 if Zk c.nm then(if JJ seen c.nm then 5 else if Q_ c.ag 0 (nr-1)then(if H5 nr c.gs=0 then ZB nc none c.af else H5 nr c.gs)else 6)else 4
def Zdk(nr nc:Int)(seen:List ByteArray)(c:Cs)(l:List Cs):Ht Zk nr nc seen (c::l)=if Qx5 nr nc seen c=0 then Ht Zk nr nc (seen++[c.nm]) l else Qx5 nr nc seen c:=by
 have e:Ht Zk nr nc seen (c::l)=if Zk c.nm then(if JJ seen c.nm then 5 else
   if Q_ c.ag 0 (nr-1)then(if H5 nr c.gs=0 then(if ZB nc none c.af=0 then Ht Zk nr nc (seen++[c.nm]) l else ZB nc none c.af)else H5 nr c.gs)else 6)else 4:=rfl
 rw[e];unfold Qx5;split
 .split
  .rfl
  .split
   .split
    .rfl
    .rfl
   .rfl
 .rfl
def Zdq(seen:List ByteArray)(s:ByteArray)(l:List ByteArray):G6 Zk seen (s::l)=if Zk s then(if JJ seen s then 5 else G6 Zk (seen++[s]) l)else 4:=rfl
def Zdo(l:List ByteArray)(x s:ByteArray):JJ (l++[x]) s=(JJ l s|| decide (x=s)):=by simp[JJ]
def Zdn(nr:Int)(g:List Int)(l:List (List Int)):Hv nr (g::l)=if g.length > 3 then 2 else if ZB nr none g=0 then Hv nr l else ZB nr none g:=rfl
def Zd.take{a:Option Addr}{len n i:Nat}{α:Type}{l:List α}{R:α->List Value->Prop}(h:Zd U a len n l R)(w:i<=len):Zd U a i n (l.take i) R:=by
 refine⟨by rw[length_take,h.1];omega,λ k x e=>?_⟩;have f:=(List.getElem?_eq_some_iff.1 e).1;rw[length_take]at f;rw[getElem?_take_of_lt O1]at e;exact h.2 k x e
def Wt.at{a:Option Addr}{len:Nat}{B:List (List Int)}(h:Wt U a len B){i:Nat}(H:i<len) :
  ∃e g ga gl gc,B[i]?=some g/\a=some e/\e.spot=none/\U.sees ((e.add (i*1)).add 0) (.slice ga gl gc)/\Z8 U ga gl g/\gl<2^60/\g∈B:=by
 obtain⟨e,g,vs,E,f,z,⟨ga,gl,gc,rfl,F,G⟩,-,w⟩:=Zd.at h H;exact⟨e,g,ga,gl,gc,E,f,z,w 0 _ rfl,F,G,mem_of_getElem? E⟩
end Go.TM
namespace Go.Proofs
open Go.TM
variable{T:Type}{S:TM.Sys Tryz.prog T}{U:Qa T}
attribute [local irreducible] Qb Zr W5
def Qia(s:ByteArray)(M:s.size<2^60):Qb S 79 #[.string s] (λ v U'=>v=.bool (Zk s)/\U'=U) U:=by
 refine Qb.pure' (Qb.of (args:=[_]) Zcs Qd S1 ?_);rw[Zdu];have H:s.size=s.data.toList.length:=(Array.length_toList (xs:=s.data)).symm
 repeat refine⟨rfl,?_⟩
 conv=>whnf
 apply Jb<;>intro w
 .have h0:s.size≠0:=by simpa using w
  repeat refine⟨rfl,?_⟩
  conv=>whnf
  apply Qe<;>intro w
  .have:Q_ s.size 1 10=false:=by unfold Q_;simp at w ⊢;omega
   rw[this]
   repeat refine⟨rfl,?_⟩
   conv=>whnf
   exact(Qa.le.refl _).lg
  .have:Q_ s.size 1 10=true:=by unfold Q_;simp at w ⊢;omega
   rw[this,Bool.true_and];refine⟨Nat,λ i=>[(0,.string s),(3,.int .i64 i)],λ i U'=>U.le U'/\i<=s.size/\Qow s.data.toList 0=Qow (s.data.toList.drop i) i,λ i=>s.size-i,0,T1,⟨.refl _,O1,rfl⟩,?_⟩;rintro i f I⟨z,L,e⟩
   repeat refine⟨rfl,?_⟩
   conv=>whnf
   apply Qe<;>intro w
   .have hlt:i<s.size:=by simpa using w
    obtain⟨c,F⟩:∃c,s.data.toList[i]?=some c:=⟨_,getElem?_eq_getElem O1⟩;rw[Hh F,Qow]at e;refine⟨i,c,⟨rfl,Zen F⟩,.bool (Q0b c),λ U' B _=>?_,?_⟩
    .refine⟨L8.any,(Zbk _ _ _ _).mono ?_⟩;rintro _ U''⟨rfl,G⟩-;exact⟨by rw[Zdi];rfl,_,.refl _,G▸.refl _⟩
    refine⟨i,c,⟨rfl,Zen F⟩,?_⟩
    conv=>whnf
    intro K B _;refine⟨L8.any,(Zbk _ _ _ _).go λ _=>?_⟩;rw[Zdi];have E:Je (i+1):=I1
    have next:Qow s.data.toList 0=Qow (s.data.toList.drop (i+1)) (i+1)->i+1<=s.size/\Qow s.data.toList 0=Qow (s.data.toList.drop (i+1)) (i+1):=λ h=>⟨O1,h⟩
    repeat refine⟨rfl,?_⟩
    conv=>whnf
    apply Jb<;>intro w
    .have h1:Q0b c=false:=by simpa using w
     repeat refine⟨rfl,?_⟩
     conv=>whnf
     apply Jb<;>intro w
     .have h2:Zch c=true:=by simpa[Zch]using w
      repeat refine⟨rfl,?_⟩
      conv=>whnf
      apply Qe<;>intro w
      .have h3:i=0:=by simpa using w
       repeat refine⟨rfl,?_⟩
       conv=>whnf
       exact⟨by rw[e,h1,h3];simp,(z.trans B).lg⟩
      .have h3:i≠0:=by simpa using w
       refine⟨E,rfl,i+1,T1,⟨z.trans B,next (by rw[e,h1,h2];simp[h3])⟩,L1⟩
     .have h2:Zch c=false:=by simpa[Zch]using w
      repeat refine⟨rfl,?_⟩
      conv=>whnf
      exact⟨by rw[e,h1,h2];simp,(z.trans B).lg⟩
    .have h1:Q0b c=true:=by simpa using w
     repeat refine⟨rfl,?_⟩
     refine⟨E,rfl,i+1,T1,⟨z.trans B,next (by rw[e,h1];simp)⟩,L1⟩
   .have hge:s.size<=i:=by simpa using w
    rw[drop_eq_nil_of_le O1]at e
    repeat refine⟨rfl,?_⟩
    conv=>whnf
    exact⟨by rw[e];rfl,z.lg⟩
 .have h0:s.size=0:=by simpa using w
  have:Q_ s.size 1 10=false:=by unfold Q_;rw[h0];rfl
  rw[this]
  repeat refine⟨rfl,?_⟩
  conv=>whnf
  exact(Qa.le.refl _).lg
def Qjh(h:BH)(b:Bk)(hb:Zt U.frz h b)(i:Nat)(c:Cs)(hx:b.cs[i]?=some c) :
  Qb S 81 #[h.v,.int .i64 i] (λ v U'=>v=.int .i64 (Qx5 b.nr b.nc ((b.cs.take i).map Cs.nm) c)/\U'=U) U:=by
 refine Qb.pure' (Qb.of (args:=[_,_]) Zax Qd S1 ?_);have ao:=hb.cs.1;have ap:=hb.cl;have bi:=hb.rs.1;have a0:=hb.rl;have hi:i<h.cl:=by rw[<- ao];exact(List.getElem?_eq_some_iff.1 hx).1
 have bg:b.nr=(h.rl:Int):=by unfold Bk.nr;rw[bi]
 have bf:b.nc=(h.cl:Int):=by unfold Bk.nc;rw[ao]
 have aw:Je ((h.rl:Int)-1):=I1
 rw[bg,bf]
 repeat refine⟨rfl,?_⟩
 conv=>whnf
 intro B U1 ak hB;have hB:Zo U1 B #[.slice h.ra h.rl h.rc,.slice h.ca h.cl h.cc]:=hB;have am:=hb.lg ak.lg.frz2;obtain⟨ad,c',ga,gl,gc,aa,al,ac,bk,a9,bs,bh,hg,bq,ha,a6,ax⟩:=am.case hi;obtain rfl:c=c':=Option.some.inj (hx.symm.trans bk);have bl:=hb.cn c ax;refine⟨_,hB.sees3 (o:=1) rfl,ad,i,⟨a9,rfl,hi⟩,_,⟨rfl,bh.lg Qy⟩,?_⟩
 conv=>whnf
 intro b5 ba;refine⟨_,.refl _,rfl,Zy (vs:=[.string c.nm,.int .i64 c.ag,.slice ga gl gc,.slice aa al ac]) ba rfl (by simp[Value.single]) λ U2 M an=>?_⟩;have aj:=hB.lg M.lg;have a7:=am.lg M.lg.frz2;have hg:=(hg.lg M.lg.frz2);have ha:=(ha.lg M.lg.frz2);have P:U.lg U2:=ak.lg.trans M.lg;refine⟨_,an.sees3 (o:=0) rfl,Zcs.any,(Qia c.nm bl).go λ _=>?_⟩;cases hn:Zk c.nm with
 |false=>
  have hs:Qx5 h.rl h.cl ((b.cs.take i).map Cs.nm) c=4:=by unfold Qx5;rw[hn];rfl
  rw[hs]
  repeat refine⟨rfl,?_⟩
  conv=>whnf
  exact P
 |true=>
 have hs:Qx5 h.rl h.cl ((b.cs.take i).map Cs.nm) c=(if JJ ((b.cs.take i).map Cs.nm) c.nm then 5 else if Q_ c.ag 0 ((h.rl:Int)-1)then(if H5 h.rl c.gs=0 then ZB h.cl none c.af else H5 h.rl c.gs)else 6):=by unfold Qx5;rw[hn];rfl
 rw[hs];refine⟨Nat,λ k=>[(1,.int .i64 i),(2,.pointer (some ⟨B,0,none⟩)),(5,.pointer (some ⟨b5,0,none⟩)),(6,.int .i64 k)],λ k U'=>U2.le U'/\k<=i/\JJ ((b.cs.take k).map Cs.nm) c.nm=false,λ k=>i-k,0,T1,⟨.refl _,O1,by simp[JJ]⟩,?_⟩;rintro k f U3⟨F,hk,ay⟩;have X:=aj.lg F.lg;have I:=an.lg F.lg;have a8:=a7.lg F.lg.frz2;have bd:Je ((k:Int)+1):=I1
 repeat refine⟨rfl,?_⟩
 conv=>whnf
 apply Qe<;>intro E
 .have hlt:k<i:=by simpa using E
  obtain⟨Q,c2,ab,ah,ae,bm,bo,bn,a3,L,a2,az,-,-,-,-,be⟩:=a8.case (show k<h.cl by omega)
  have bj:JJ ((b.cs.take (k+1)).map Cs.nm) c.nm=decide (c2.nm=c.nm):=by
   rw[Wm a3,map_append,map_cons,map_nil,Zdo,ay,Bool.false_or]
  refine⟨_,X.sees3 (o:=1) rfl,Q,k,⟨L,rfl,O1⟩,_,(az.lg Qy).cell (i:=0) rfl,_,I.sees3 (o:=0) rfl,?_⟩
  conv=>whnf
  intro U4 z _
  repeat refine⟨rfl,?_⟩
  conv=>whnf
  apply Qe<;>intro E
  .have e:c2.nm=c.nm:=by rw[Qo6]at E;simpa using E
   have a4:JJ ((b.cs.take i).map Cs.nm) c.nm=true:=by
    rw[Zc1,mem_map];refine⟨c2,?_,e⟩;rw[mem_take_iff_getElem];obtain⟨hl,e2⟩:=List.getElem?_eq_some_iff.1 a3;exact⟨k,O1,e2⟩
   rw[a4]
   repeat refine⟨rfl,?_⟩
   conv=>whnf
   exact P.trans (F.lg.trans z.lg)
  .have e:¬c2.nm=c.nm:=by rw[Qo6]at E;simpa using E
   refine⟨bd,?_⟩
   conv=>whnf
   exact⟨rfl,k+1,T1,⟨F.trans z,O1,by rw[bj];simpa using e⟩,L1⟩
 have aq:k=i:=by simp at E;omega
 subst aq;rw[ay];have G:=P.trans F.lg;refine⟨_,I.sees3 (o:=1) rfl,_,X.sees3 (o:=0) rfl,aw,L8.any,(Zbk U3 c.ag 0 ((h.rl:Int)-1)).go λ _=>?_⟩;cases bp:Q_ c.ag 0 ((h.rl:Int)-1)with
 |false=>
  repeat refine⟨rfl,?_⟩
  conv=>whnf
  exact G
 |true=>
 refine⟨_,I.sees3 (o:=2) rfl,?_⟩
 repeat refine⟨rfl,?_⟩
 conv=>whnf
 have V:c.gs.length=gl:=hg.1;apply Qe<;>intro E
 .have Z:H5 h.rl c.gs=2:=by unfold H5;rw[if_pos (by rw[V];simp at E;omega)]
  rw[Z]
  repeat refine⟨rfl,?_⟩
  conv=>whnf
  exact G
 have Z:H5 h.rl c.gs=Hv h.rl c.gs:=by unfold H5;rw[if_neg (by rw[V];simp at E;omega)]
 rw[Z];refine⟨Nat,λ j=>[(1,.int .i64 k),(2,.pointer (some ⟨B,0,none⟩)),(5,.pointer (some ⟨b5,0,none⟩)),(7,.int .i64 j)],λ j U'=>U3.le U'/\j<=gl/\Hv h.rl c.gs=Hv h.rl (c.gs.drop j),λ j=>gl-j,0,T1,⟨.refl _,O1,rfl⟩,?_⟩;rintro j f U4⟨z,hj,w⟩;have ai:=X.lg z.lg;have K:=I.lg z.lg;have bc:=(hg.lg F.lg.frz2).lg z.lg.frz2;have a5:=(ha.lg F.lg.frz2).lg z.lg.frz2;have H:=G.trans z.lg;have av:Je ((j:Int)+1):=I1
 refine⟨_,K.sees3 (o:=2) rfl,?_⟩
 repeat refine⟨rfl,?_⟩
 conv=>whnf
 apply Qe<;>intro E
 .have hlt:j<gl:=by simpa using E
  obtain⟨Q,g,ab,ah,ae,bb,L,a2,a1,W,au,br⟩:=(Wt.lg bc Qy).at hlt;have T:=W.1;rw[Hh bb,Zdn]at w;refine⟨_,K.sees3 (o:=2) rfl,Q,j,⟨L,rfl,hlt⟩,_,a1,?_⟩
  repeat refine⟨rfl,?_⟩
  conv=>whnf
  apply Qe<;>intro E
  .have N:g.length > 3:=by rw[T];simp at E;omega
   rw[if_pos N]at w;rw[w]
   repeat refine⟨rfl,?_⟩
   conv=>whnf
   exact H
  have N:¬g.length > 3:=by rw[T];simp at E;omega
  rw[if_neg N]at w;refine⟨_,K.sees3 (o:=2) rfl,Q,j,⟨L,rfl,hlt⟩,_,a1,_,ai.sees3 (o:=0) rfl,?_⟩
  conv=>whnf
  intro U5 Y _;refine⟨Qk8.any,(Qfj ab ah ae g (W.lg Y.lg) au h.rl a0).go λ _=>?_⟩;by_cases hz:ZB (h.rl:Nat) none g=0
  .rw[if_pos hz]at w;rw[hz]
   repeat refine⟨rfl,?_⟩
   refine⟨av,?_⟩
   conv=>whnf
   exact⟨rfl,j+1,T1,⟨z.trans Y,O1,w⟩,L1⟩
  .rw[if_neg hz]at w;rw[w,if_neg hz]
   repeat refine⟨rfl,?_⟩
   conv=>whnf
   apply Qe<;>intro E
   .repeat refine⟨rfl,?_⟩
    conv=>whnf
    exact H.trans Y.lg
   .exact absurd (by simpa using E) hz
 have aq:j=gl:=by simp at E;omega
 rw[drop_eq_nil_of_le O1]at w;rw[w];refine⟨_,K.sees3 (o:=3) rfl,_,ai.sees3 (o:=1) rfl,Qk8.any,(Qfj aa al ac c.af (a5.lg Qy) a6 h.cl ap).go λ _=>?_⟩
 repeat refine⟨rfl,?_⟩
 conv=>whnf
 exact H
def Qtm(h:BH)(b:Bk)(M:Zt U.frz h b)(E:b.Low):Qb S 35 #[h.v] (λ v U'=>v=.bool (GE b.A)/\U'=U) U:=by
 refine Qb.pure' (Qb.of (args:=[_]) Q8n Qd S1 ?_);have I:=M.cs.1;have Q:=E.nc;have w:b.A.length=h.cl:=by rw[b.A_len,I]
 repeat refine⟨rfl,?_⟩
 conv=>whnf
 intro B L e z;have z:Zo L B #[.slice h.ra h.rl h.rc,.slice h.ca h.cl h.cc]:=z;refine⟨Nat,λ i=>[(1,.pointer (some ⟨B,0,none⟩)),(3,.int .i64 i)],λ i U'=>U'=L/\i<=h.cl/\((range i).any λ i=>WK b.A i h.cl i)=false,λ i=>h.cl-i,0,T1,⟨rfl,O1,rfl⟩,?_⟩;rintro i f _⟨rfl,T,F⟩;have K:Je ((i:Int)+1):=I1
 refine⟨_,z.sees3 (o:=1) rfl,?_⟩
 repeat refine⟨rfl,?_⟩
 conv=>whnf
 apply Qe<;>intro N
 .have hlt:i<h.cl:=by simpa using N
  refine⟨_,⟨rfl,z.rd⟩,?_⟩;refine⟨_,z.sees3 (o:=1) rfl,Qk6.any,(Q1v h b (M.lg e.lg.frz2) E i O1 h.cl i O1 O1).go λ _=>?_⟩;cases P:WK b.A i h.cl i with
  |true=>
   have H:GE b.A=true:=by
    unfold GE;rw[w,any_eq_true];exact⟨i,mem_range.2 hlt,P⟩
   rw[H]
   repeat refine⟨rfl,?_⟩
   conv=>whnf
   exact e.lg
  |false=>
   refine⟨K,?_⟩
   conv=>whnf
   exact⟨rfl,i+1,T1,⟨rfl,O1,by rw[range_succ,any_append,F];simp[P]⟩,L1⟩
 .have hge:i=h.cl:=by simp at N;omega
  subst hge;have G:GE b.A=false:=by unfold GE;rw[w];exact F
  rw[G]
  repeat refine⟨rfl,?_⟩
  conv=>whnf
  exact e.lg
def Qtk(h:BH)(b:Bk)(X:Zt U.frz h b)(al:h.rl<=h.rc):Qb S 42 #[h.v] (λ v U'=>v=.int .i64 (b.flaw Zk)/\U'=U) U:=by
 refine Qb.pure' (Qb.of (args:=[_]) Q8p Qd S1 ?_);have Y:=X.cs.1;have aj:=X.cl;have ae:=X.rs.1;have ak:=X.rl
 repeat refine⟨rfl,?_⟩
 conv=>whnf
 intro B U1 Q hB;have hB:Zo U1 B #[.slice h.ra h.rl h.rc,.slice h.ca h.cl h.cc]:=hB;have ag:=X.lg Q.lg.frz2;refine⟨_,hB.sees3 (o:=0) rfl,?_⟩
 repeat refine⟨rfl,?_⟩
 conv=>whnf
 apply Qe<;>intro G
 .have z:b.rs.length > 6:=by rw[ae];simp at G;omega
  have H:b.flaw Zk=2:=by unfold Bk.flaw Bk.rsF;rw[if_pos z];rfl
  rw[H]
  repeat refine⟨rfl,?_⟩
  conv=>whnf
  exact Q.lg
 have z:¬b.rs.length > 6:=by rw[ae];simp at G;omega
 have W:b.rsF Zk=G6 Zk [] b.rs:=by unfold Bk.rsF;rw[if_neg z]
 refine⟨Nat,λ i=>[(1,.pointer (some ⟨B,0,none⟩)),(3,.int .i64 i)],λ i U'=>U1.le U'/\i<=h.rl/\G6 Zk [] b.rs=G6 Zk (b.rs.take i) (b.rs.drop i),λ i=>h.rl-i,0,T1,⟨.refl _,O1,rfl⟩,?_⟩;rintro i f U2⟨K,hi,e⟩;have w:=hB.lg K.lg;have L:=ag.lg K.lg.frz2;have F:=Q.lg.trans K.lg;have ai:Je ((i:Int)+1):=I1
 refine⟨_,w.sees3 (o:=0) rfl,?_⟩
 repeat refine⟨rfl,?_⟩
 conv=>whnf
 apply Qe<;>intro G
 .have hlt:i<h.rl:=by simpa using G
  obtain⟨ad,s,P,V,am,hs,ac⟩:=(L.lg Qy).right hlt;rw[Hh P,Zdq]at e
  have aa:(if h.rc=0 then h.ra else h.ra.map (·.add (0*1)))=h.ra:=by
   rw[V];split
   .rfl
   .rfl
  refine⟨_,w.sees3 (o:=0) rfl,ad,i,⟨V,rfl,hlt⟩,_,hs,Zcs.any,(Qia s (X.rn s ac)).go λ _=>?_⟩;cases hn:Zk s with
  |false=>
   rw[hn]at e;have H:b.flaw Zk=4:=by unfold Bk.flaw;rw[W,e];rfl
   rw[H]
   repeat refine⟨rfl,?_⟩
   conv=>whnf
   exact F
  |true=>
  rw[if_pos hn]at e;refine⟨_,w.sees3 (o:=0) rfl,0,i,⟨rfl,rfl,O1,O1⟩,?_⟩;rw[aa];refine⟨_,w.sees3 (o:=0) rfl,ad,i,⟨V,rfl,hlt⟩,_,hs,?_⟩
  conv=>whnf
  intro U3 T _;refine⟨Q9r.any,(Q0n h.ra i (h.rc-0) (b.rs.take i) (((L.rs.lg Qy λ _ _ h=>h).lg T.lg λ _ _ h=>h).take O1) O1 s).go λ _=>?_⟩
  conv=>whnf
  rw[Zcl];cases hh:JJ (b.rs.take i) s with
  |true=>
   rw[if_pos hh]at e;have H:b.flaw Zk=5:=by unfold Bk.flaw;rw[W,e];rfl
   rw[H]
   repeat refine⟨rfl,?_⟩
   conv=>whnf
   exact F.trans T.lg
  |false=>
   rw[if_neg (by simp[hh])]at e
   repeat refine⟨rfl,?_⟩
   refine⟨ai,?_⟩
   conv=>whnf
   exact⟨rfl,i+1,T1,⟨K.trans T,O1,by rw[e,Wm P]⟩,L1⟩
 have ah:i=h.rl:=by simp at G;omega
 rw[drop_eq_nil_of_le O1]at e;have I:b.rsF Zk=0:=by rw[W,e];rfl
 refine⟨_,w.sees3 (o:=1) rfl,?_⟩
 repeat refine⟨rfl,?_⟩
 conv=>whnf
 apply Qe<;>intro G
 .have z:b.cs.length > 5:=by rw[Y];simp at G;omega
  have H:b.flaw Zk=2:=by unfold Bk.flaw Bk.csF;rw[if_pos I,if_pos z];rfl
  rw[H]
  repeat refine⟨rfl,?_⟩
  conv=>whnf
  exact F
 have z:¬b.cs.length > 5:=by rw[Y];simp at G;omega
 have Z:b.csF Zk=Ht Zk b.nr b.nc [] b.cs:=by unfold Bk.csF;rw[if_neg z]
 refine⟨Nat,λ k=>[(1,.pointer (some ⟨B,0,none⟩)),(4,.int .i64 k)],λ k U'=>U'=U2/\k<=h.cl/\Ht Zk b.nr b.nc [] b.cs=Ht Zk b.nr b.nc ((b.cs.take k).map Cs.nm) (b.cs.drop k),λ k=>h.cl-k,0,T1,⟨rfl,O1,rfl⟩,?_⟩;rintro k f _⟨rfl,hk,E⟩;have ab:Je ((k:Int)+1):=I1
 refine⟨_,w.sees3 (o:=1) rfl,?_⟩
 repeat refine⟨rfl,?_⟩
 conv=>whnf
 apply Qe<;>intro G
 .have hlt:k<h.cl:=by simpa using G
  obtain⟨c,P⟩:∃c,b.cs[k]?=some c:=⟨_,getElem?_eq_getElem O1⟩;rw[Hh P,Zdk]at E;refine⟨_,⟨rfl,w.rd⟩,?_⟩;refine⟨Zax.any,(Qjh h b L k c P).go λ _=>?_⟩;by_cases hz:Qx5 b.nr b.nc ((b.cs.take k).map Cs.nm) c=0
  .rw[if_pos hz]at E;rw[hz]
   repeat refine⟨rfl,?_⟩
   refine⟨ab,?_⟩
   conv=>whnf
   exact⟨rfl,k+1,T1,⟨rfl,O1,by rw[E,Wm P,map_append];rfl⟩,L1⟩
  .rw[if_neg hz]at E;have H:b.flaw Zk=Qx5 b.nr b.nc ((b.cs.take k).map Cs.nm) c:=by unfold Bk.flaw;rw[if_pos I,Z,E,if_neg hz]
   rw[H]
   repeat refine⟨rfl,?_⟩
   conv=>whnf
   apply Qe<;>intro G
   .repeat refine⟨rfl,?_⟩
    conv=>whnf
    exact F
   .exact absurd (by simpa using G) hz
 have ah:k=h.cl:=by simp at G;omega
 rw[drop_eq_nil_of_le O1]at E;have M:b.csF Zk=0:=by rw[Z,E];rfl
 have N:=Bk.low_of M;refine⟨_,⟨rfl,w.rd⟩,?_⟩;refine⟨Q8n.any,(Qtm h b L N).go λ _=>?_⟩
 have hA:∀i,i<b.A.length->∀k∈Jd b.A i,k<b.A.length:=by
  intro i hi k hk;rw[b.A_len]at hi ⊢;have P:b.cs[i]?=some (b.cs[i]):=getElem?_eq_getElem hi;rw[Bk.aft1_at P]at hk;obtain⟨n,hn,rfl⟩:=mem_map.1 hk;have:=N.af _ (getElem_mem hi) n hn;unfold Bk.nc at this;omega
 rw[<- Mq hA];have H:b.flaw Zk=if W4 b.A then 8 else 0:=by unfold Bk.flaw;rw[if_pos I,if_pos M]
 rw[H];cases hl:W4 b.A with
 |true=>
  repeat refine⟨rfl,?_⟩
  conv=>whnf
  exact F
 |false=>
  repeat refine⟨rfl,?_⟩
  conv=>whnf
  exact F
structure Qo8(b:Bk):Prop where
 r:∀s∈b.rs,s.size<2^50
 c:∀c∈b.cs,c.nm.size<2^50
def Qx2(h:BH)(b:Bk)(P:Zt U.frz h b)(W:Qo8 b):Qb S 5 #[h.v] (λ v U'=>(∃g,v=.bool g)/\U'=U) U:=by
 refine Qb.pure' (Qb.of (args:=[_]) Zco Qd S1 ?_);have a2:=P.cs.1;have aq:=P.cl;have a6:=P.rs.1;have aw:=P.rl
 repeat refine⟨rfl,?_⟩
 conv=>whnf
 intro B X z K;have K:Zo X B #[.slice h.ra h.rl h.rc,.slice h.ca h.cl h.cc]:=K;have Q:=P.lg z.lg.frz2;refine⟨_,K.sees3 (o:=0) rfl,?_⟩
 repeat refine⟨rfl,?_⟩
 conv=>whnf
 apply Jb<;>intro w
 rotate_left
 .repeat refine⟨rfl,?_⟩
  conv=>whnf
  exact⟨⟨_,rfl⟩,z.lg⟩
 have av:h.rl<=40:=by simp at w;omega
 refine⟨_,K.sees3 (o:=1) rfl,?_⟩
 repeat refine⟨rfl,?_⟩
 conv=>whnf
 apply Qe<;>intro w
 .repeat refine⟨rfl,?_⟩
  conv=>whnf
  exact⟨⟨_,rfl⟩,z.lg⟩
 have ap:h.cl<=40:=by simp at w;omega
 refine⟨Nat×Nat,λ y=>[(1,.pointer (some ⟨B,0,none⟩)),(3,.int .i64 y.2),(4,.int .i64 y.1)],λ y U'=>U'=X/\y.1<=h.rl/\y.2<=y.1*1125899906842624,λ y=>h.rl-y.1,(0,0),T1,⟨rfl,S1,S1⟩,?_⟩;rintro⟨i,n⟩f U2⟨hU,hi,hn⟩;obtain rfl:=hU.symm;simp only at hi hn;have I:Je ((i:Int)+1):=I1
 refine⟨_,K.sees3 (o:=0) rfl,?_⟩
 repeat refine⟨rfl,?_⟩
 conv=>whnf
 apply Qe<;>intro w
 .have hlt:i<h.rl:=by simpa using w
  obtain⟨Y,s,hx,M,ao,hs,H⟩:=(Q.lg Qy).right hlt;have a7:=W.r s H;have G:Je ((n:Int)+(s.size:Nat)):=I1
  have ak:n+s.size<=(i+1)*1125899906842624:=O1
  refine⟨_,K.sees3 (o:=0) rfl,Y,i,⟨M,rfl,hlt⟩,_,hs,G,I,?_⟩
  conv=>whnf
  exact⟨rfl,(i+1,n+s.size),T1,⟨rfl,by show i+1<=_;omega,ak⟩,L1⟩
 have aj:n<=(40+0)*1125899906842624:=Nat.le_trans hn (Nat.mul_le_mul_right _ (by omega:i<=40+0));clear I;refine⟨Nat×Nat,λ y=>[(1,.pointer (some ⟨B,0,none⟩)),(3,.int .i64 y.2),(5,.int .i64 y.1)],λ y U'=>X.le U'/\y.1<=h.cl/\y.2<=(40+y.1)*1125899906842624,λ y=>h.cl-y.1,(0,n),T1,⟨.refl _,S1,aj⟩,?_⟩;rintro⟨k,m⟩f U3⟨E,hk,hm⟩;simp only at hk hm;have I:Je ((k:Int)+1):=I1
 have N:=K.lg E.lg;have ab:=Q.lg E.lg.frz2;refine⟨_,N.sees3 (o:=1) rfl,?_⟩
 repeat refine⟨rfl,?_⟩
 conv=>whnf
 apply Qe<;>intro w
 .have hlt:k<h.cl:=by simpa using w
  obtain⟨Y,c,ga,gl,gc,aa,al,ac,hx,M,ao,am,hg,a4,ha,a1,H⟩:=ab.case hlt;have a8:=W.c c H;refine⟨_,N.sees3 (o:=1) rfl,Y,k,⟨M,rfl,hlt⟩,_,⟨rfl,am.lg Qy⟩,?_⟩
  conv=>whnf
  intro b5 ae;refine⟨_,.refl _,rfl,Zy (vs:=[.string c.nm,.int .i64 c.ag,.slice ga gl gc,.slice aa al ac]) ae rfl (by simp[Value.single]) λ U4 L F=>?_⟩;have e:U.lg U4:=z.lg.trans (E.lg.trans L.lg);have af:=(hg.lg L.lg.frz2);have G:Je ((m:Int)+(c.nm.size:Nat)):=I1
  have ai:m+c.nm.size<=(40+(k+1))*1125899906842624:=O1
  refine⟨_,F.sees3 (o:=2) rfl,?_⟩
  repeat refine⟨rfl,?_⟩
  conv=>whnf
  apply Jb<;>intro w
  rotate_left
  .repeat refine⟨rfl,?_⟩
   conv=>whnf
   exact⟨⟨_,rfl⟩,e⟩
  refine⟨_,F.sees3 (o:=3) rfl,?_⟩
  repeat refine⟨rfl,?_⟩
  conv=>whnf
  apply Qe<;>intro w
  .repeat refine⟨rfl,?_⟩
   conv=>whnf
   exact⟨⟨_,rfl⟩,e⟩
  refine⟨Nat,λ j=>[(1,.pointer (some ⟨B,0,none⟩)),(3,.int .i64 m),(5,.int .i64 k),(6,.pointer (some ⟨b5,0,none⟩)),(7,.int .i64 j)],λ j U'=>U'=U4/\j<=gl,λ j=>gl-j,0,T1,⟨rfl,O1⟩,?_⟩;rintro j f U5⟨hU,hj⟩;obtain rfl:=hU.symm;have V:Je ((j:Int)+1):=I1
  refine⟨_,F.sees3 (o:=2) rfl,?_⟩
  repeat refine⟨rfl,?_⟩
  conv=>whnf
  apply Qe<;>intro w
  .have hltj:j<gl:=by simpa using w
   obtain⟨Z,g,ay,a0,az,a3,T,ax,an,ah,au,a5⟩:=(Wt.lg af Qy).at hltj;refine⟨_,F.sees3 (o:=2) rfl,Z,j,⟨T,rfl,hltj⟩,_,an,?_⟩
   repeat refine⟨rfl,?_⟩
   conv=>whnf
   apply Qe<;>intro w
   .repeat refine⟨rfl,?_⟩
    conv=>whnf
    exact⟨⟨_,rfl⟩,e⟩
   refine⟨V,?_⟩
   conv=>whnf
   exact⟨rfl,j+1,T1,⟨rfl,O1⟩,L1⟩
  refine⟨_,F.sees3 (o:=0) rfl,G,I,?_⟩
  conv=>whnf
  exact⟨rfl,(k+1,m+c.nm.size),T1,⟨E.trans L,by show k+1<=_;omega,ai⟩,L1⟩
 repeat refine⟨rfl,?_⟩
 conv=>whnf
 exact⟨⟨_,rfl⟩,z.lg.trans E.lg⟩
def Qdm(a:Option Addr)(len cap:Nat)(p:List Nat)(B:Zd U a len 1 p λ n vs=>vs=[.int .u16 (n:Int)]/\n<65536)(k:Nat):Qb S 47 #[.slice a len cap,.int .i64 k] (λ v U'=>v=.int .i64 (p.getD k 0:Nat)/\U'=U) U:=by
 refine Qb.of (args:=[_,_]) Qk4 Qd S1 ?_;have F:=B.1
 repeat refine⟨rfl,?_⟩
 conv=>whnf
 apply Qe<;>intro z
 .have hlt:k<len:=by simpa using z
  obtain⟨E,n,vs,H,f,G,⟨rfl,I⟩,-,w⟩:=B.at hlt;have e:p.getD k 0=n:=by simp[getD_eq_getElem?_getD,H]
  rw[e];refine⟨E,k,⟨f,rfl,hlt⟩,_,w 0 _ rfl,?_⟩
  repeat refine⟨rfl,?_⟩
  conv=>whnf
  rw[JC O1];exact⟨rfl,rfl⟩
 .have hge:len<=k:=by simp at z;omega
  have e:p.getD k 0=0:=by simp[getD_eq_getElem?_getD,getElem?_eq_none (show p.length<=k by omega)]
  rw[e]
  repeat refine⟨rfl,?_⟩
  conv=>whnf
end Go.Proofs
namespace Go.TM
variable{T:Type}{P:Program}{S:Sys P T}{U U':Qa T}
def Qb.pre{f:FuncId}{args:Array Value}{Q:Value->Qa T->Prop}{e:Qa T}(w:Q1 U e)(h:Qb S f args Q e):Qb S f args Q U:=λ Stop m c cs k=>.shift w (h Stop m c cs k)
end Go.TM
namespace Go.TM
variable{T:Type}{P:Program}{S:Sys P T}
structure Hlr(U:Qa T)(b:Nat)(e:TypeId)(c:Array Value)(U':Qa T):Prop where
 imm:∀x o,U.I x=some o->U'.I x=some o
 own:U'.M=.obj b (.cells c e (0,0))::U.M
 tok:U'.tok=U.tok
 new:U.I b=none
def Hlr.le{U U' U'':Qa T}{b:Nat}{e:TypeId}{c:Array Value}(h:Hlr U b e c U')(k:U'.le U''):Hlr U b e c U'':=⟨λ x o i=>k.imm x o (h.imm x o i),k.own.trans h.own,k.tok.trans h.tok,h.new⟩
def Hlr.frz2{U U':Qa T}{b:Nat}{e:TypeId}{c:Array Value}(h:Hlr U b e c U'):U.frz.lg U'.frz:=⟨h.imm,⟨[],rfl⟩,h.tok⟩
def Hlr.frz1{U U':Qa T}{b:Nat}{e:TypeId}{c:Array Value}(h:Hlr U b e c U'):U.frz.lg U':=⟨h.imm,⟨_,(append_nil _).symm⟩,h.tok⟩
def Hlr.made{U U':Qa T}{b:Nat}{e:TypeId}{c:Array Value}(h:U.le U')(w:U'.free b):Hlr U b e c (U'.put b (.cells c e)):=by
 refine⟨h.imm,by show _::U'.M=_;rw[h.own],h.tok,?_⟩;cases f:U.I b with
 |none=>rfl
 |some o=>have:=h.imm b o f;rw[w.1]at this;cases this
def Hlr.write{U U':Qa T}{b:Nat}{e:TypeId}{c:Array Value}{vs:List Value}{Q:Qa T->Prop}(h:Hlr U b e c U')(w:c.size=vs.length)(B:∀v∈vs,v.single=true)(z:∀f,U.le f->Zo f b vs.toArray->Q f):ZF ⟨b,0,none⟩ vs 0 (λ U'=>∃f,Q1 U' f/\Q f) U':=by
 refine K9 [] vs 0 c U' h.own B O1 ?_;rw[Vw w];refine⟨_,Wf (b:=b) (M':=U.M) (Perm.refl _),z _ ⟨λ x o i=>?_,rfl,h.tok⟩ Zo.new⟩;show JH U'.I b _ x=_;unfold JH;rw[if_neg]
 .exact h.imm x o i
 .rintro rfl;rw[h.new]at i;cases i
end Go.TM
namespace Go.TM
variable{T:Type}{P:Program}{S:Sys P T}{U U' U'':Qa T}
def HqV(w:Qa T)(R:Qa T->Prop)(b:Nat)(e:TypeId)(z:Array Value)(U':Qa T):Prop:=∃f,w.le f/\R f/\Hlr f b e z U'
def HqV.le{f:Qa T}{R:Qa T->Prop}{b:Nat}{e:TypeId}{z:Array Value}(h:HqV f R b e z U')(k:U'.le U''):HqV f R b e z U'':=let ⟨d,h1,h2,h3⟩:=h;⟨d,h1,h2,h3.le k⟩
def HqV.frz{f:Qa T}{R:Qa T->Prop}{b:Nat}{e:TypeId}{z:Array Value}(h:HqV f R b e z U'):f.frz.lg U':=let ⟨_,h1,_,h3⟩:=h;h1.lg.frz2.trans h3.frz1
def HqV.of{f:Qa T}{R:Qa T->Prop}{b:Nat}{e:TypeId}{z:Array Value}(h:Hlr f b e z U')(B:U'.le U'')(F:JS U'')(E:R { U'' with M:=f.M }):HqV f R b e z U'':=by
 have w:=h.le B;refine⟨{ U'' with M:=f.M },⟨w.imm,rfl,w.tok⟩,E,⟨λ _ _ h=>h,w.own,rfl,?_⟩⟩;exact F (.obj b (.cells z e (0,0))) (by rw[w.own];exact mem_cons_self ..)
end Go.TM

