/- Lemmas. No conditions. -/
import Derived.Test.YtajkaognaiglhaaGreatDoorB28
import Derived.Test.YtajkaognaiglhaaGreatDoorC00
import Derived.Test.YtajkaognaiglhaaGreatDoorC03
import Derived.Test.YtajkaognaiglhaaGreatDoorC01
set_option linter.all false
set_option maxRecDepth 100000
set_option maxHeartbeats 4000000
open List
open Go.Proofs.Tryz (prog)
namespace Go.TM
open Go.Proofs
def Zfl(s:ByteArray):Nat->List ByteArray->Int
 |_,[]=>-1
 |i,x::l=>if x=s then i else Zfl s (i+1) l
def Zfm(s:ByteArray):∀(l:List ByteArray)(i:Nat),decide (Zfl s i l ≥ 0)=JK l s
 |[],_=>rfl
 |x::l,i=>by
  unfold Zfl JK;rw[any_cons];by_cases e:x=s
  .rw[if_pos e];simp[e]
  .rw[if_neg e,decide_eq_false e,Bool.false_or];exact Zfm s l (i+1)
def Zf2(s x:ByteArray)(i:Nat)(l:List ByteArray):Zfl s i (x::l)=if x=s then(i:Int)else Zfl s (i+1) l:=rfl
def Zel{b:Int}:∀{l:List Int}{p:Option Int}{n:Int},ZB b p l=0->ZB b p (l++[n])=if Q_ n 0 (b-1)then(match(l.getLast?).or p with|some m=>if n<=m then 7 else 0|none=>0)else 6
 |[],p,n,_=>by
  rw[nil_append,Pm];cases p <;> rfl
 |x::l,p,n,h=>by
  rw[Pm]at h;rw[cons_append,Pm];split at h
  .rename_i hb;rw[if_pos hb]
   have key:ZB b (some x) l=0->ZB b (some x) (l++[n])=if Q_ n 0 (b-1)then(match((x::l).getLast?).or p with|some m=>if n<=m then 7 else 0|none=>0)else 6:=λ h=>by
    rw[Zel h];cases l with
    |nil=>simp
    |cons y l=>
     rw[getLast?_cons_cons];obtain⟨z,e⟩:∃z,(y::l).getLast?=some z:=⟨_,getLast?_eq_some_getLast (cons_ne_nil y l)⟩;rw[e];rfl
   cases p with
   |none=>exact key h
   |some m=>
    simp only at h ⊢;split at h
    .cases h
    .rename_i hm;rw[if_neg hm];exact key h
  .cases h
def Zd6{b:Int}:∀{l l':List Int}{p:Option Int},ZB b p l≠0->ZB b p (l++l')=ZB b p l
 |[],_,_,h=>absurd rfl h
 |x::l,l',p,h=>by
  rw[Pm]at h;rw[cons_append,Pm,Pm];split at h
  .rename_i hb;rw[if_pos hb,if_pos hb];cases p with
   |none=>exact Zd6 h
   |some m=>
    simp only at h ⊢;split at h
    .rename_i hm;rw[if_pos hm,if_pos hm]
    .rename_i hm;rw[if_neg hm,if_neg hm];exact Zd6 h
  .rename_i hb;rw[if_neg hb,if_neg hb]
variable{T:Type}{S:Sys prog T}{U:Qa T}
section
attribute [local irreducible] Qb Zr W5
def Zeo(a:Option Addr)(len cap:Nat)(l:List ByteArray)(F:Zd U a len 1 l λ s vs=>vs=[.string s])(G:len<2^60)(s:ByteArray) :
  Qb S 80 #[.slice a len cap,.string s] (λ v U'=>v=.int .i64 (Zfl s 0 l)/\U'=U) U:=by
 refine Qb.of (args:=[_,_]) Ze5 Qd S1 ?_;have I:=F.1;refine⟨Nat,λ i=>[(0,.slice a len cap),(1,.string s),(5,.int .i64 i)],λ i U'=>U'=U/\i<=len/\Zfl s 0 l=Zfl s i (l.drop i),λ i=>len-i,0,T1,⟨rfl,O1,rfl⟩,?_⟩;rintro i f _⟨rfl,M,w⟩;have B:Je ((i:Int)+1):=I1
 repeat refine⟨rfl,?_⟩
 conv=>whnf
 apply Qe<;>intro z
 .have hlt:i<len:=by simpa using z
  obtain⟨H,x,vs,L,rfl,K,rfl,-,E⟩:=F.at hlt;rw[Hk L,Zf2]at w;refine⟨H,i,⟨rfl,rfl,hlt⟩,_,E 0 _ rfl,?_⟩
  repeat refine⟨rfl,?_⟩
  conv=>whnf
  apply Qe<;>intro z
  .have e:x=s:=by rw[Zdh]at z;simpa using z
   rw[if_pos e]at w;rw[w]
   repeat refine⟨rfl,?_⟩
   conv=>whnf
  .have e:x≠s:=by rw[Zdh]at z;simpa using z
   rw[if_neg e]at w;refine⟨B,?_⟩
   conv=>whnf
   exact⟨rfl,i+1,T1,⟨rfl,O1,w⟩,L1⟩
 .have hge:i=len:=by simp at z;omega
  rw[drop_eq_nil_of_le O1]at w;rw[w]
  repeat refine⟨rfl,?_⟩
  conv=>whnf
def Qr7(a:Option Addr)(len cap:Nat)(l:List Int)(N:Z8 U a len l)(T:len<2^60)(n:Nat)(hn:n<2^60) :
  Qb S 115 #[.slice a len cap,.int .i64 n] (λ v U'=>v=.int .i64 (ZB n none l)/\U'=U) U:=by
 refine Qb.pure' (Qb.of (args:=[_,_]) Zaf Qd S1 ?_);have ab:=N.1;have I:Je ((n:Int)-1):=I1
 refine⟨Nat,λ i=>[(0,.slice a len cap),(1,.int .i64 n),(5,.int .i64 i)],λ i U'=>U.lg U'/\i<=len/\ZB n none (l.take i)=0,λ i=>len-i,0,T1,⟨(Qa.le.refl _).lg,O1,rfl⟩,?_⟩;rintro i f Y⟨w,hi,z⟩;have H:Je ((i:Int)+1):=I1
 repeat refine⟨rfl,?_⟩
 conv=>whnf
 apply Qe<;>intro F
 .have hlt:i<len:=by simpa using F
  obtain⟨L,x,hx,rfl,ac,V⟩:=(N.lg w).at hlt;have e:ZB n none (l.take (i+1))=if Q_ x 0 ((n:Int)-1)then(match((l.take i).getLast?).or none with|some m=>if x<=m then 7 else 0|none=>0)else 6:=by rw[Wm hx];exact Zel z
  have E:ZB n none (l.take (i+1))≠0->ZB n none l=ZB n none (l.take (i+1)):=λ h=>by
   have:=Zd6 (l':=l.drop (i+1)) h
   rwa [take_append_drop]at this
  refine⟨L,i,⟨rfl,rfl,hlt⟩,_,V,I,Ll.any,(Za1 Y x 0 ((n:Int)-1)).go λ _=>?_⟩;cases Q:Q_ x 0 ((n:Int)-1)with
  |false=>
   rw[Q,if_neg S1]at e;rw[E (by rw[e];decide),e]
   repeat refine⟨rfl,?_⟩
   conv=>whnf
   exact w
  |true=>
   rw[if_pos Q]at e
   repeat refine⟨rfl,?_⟩
   conv=>whnf
   apply Jb<;>intro F
   .have h0:0<i:=by simpa using F
    obtain⟨j,rfl⟩:∃j,i=j+1:=⟨i-1,O1⟩;obtain⟨y,X⟩:∃y,l[j]?=some y:=⟨_,getElem?_eq_getElem O1⟩;have G:(l.take (j+1)).getLast?=some y:=by rw[Wm X];simp
    rw[G,Option.some_or]at e;simp only at e;obtain⟨aa,e',W,P⟩:=(N.lg w).2 j y X;cases e';have K:Je (((j+1:Nat):Int)-1):=I1
    have M:((j+1:Nat):Int)-1=(j:Int):=O1
    refine⟨L,j+1,⟨rfl,rfl,hlt⟩,_,V,K,?_⟩;rw[M];refine⟨L,j,⟨rfl,rfl,O1⟩,_,P,?_⟩
    conv=>whnf
    intro Z B _
    repeat refine⟨rfl,?_⟩
    conv=>whnf
    apply Qe<;>intro F
    .have hle:x<=y:=by simpa using F
     rw[if_pos hle]at e;rw[E (by rw[e];decide),e]
     repeat refine⟨rfl,?_⟩
     conv=>whnf
     exact w.trans B.lg
    .have hle:¬x<=y:=by simp at F;omega
     rw[if_neg hle]at e;refine⟨H,?_⟩
     conv=>whnf
     exact⟨rfl,j+1+1,T1,⟨w.trans B.lg,O1,e⟩,L1⟩
   .have h0:i=0:=by simp at F;omega
    subst h0;have e:ZB n none (l.take (0+1))=0:=e
    conv=>whnf
    intro Z B _;refine⟨H,?_⟩
    conv=>whnf
    exact⟨rfl,0+1,T1,⟨w.trans B.lg,O1,e⟩,L1⟩
 .have hge:i=len:=by simp at F;omega
  rw[take_of_length_le O1]at z;rw[z]
  repeat refine⟨rfl,?_⟩
  conv=>whnf
  exact w
def Zeq(h:BH)(b:Bk)(hb:Zu U.frz h b)(ao:b.Low)(two:Nat)(h2:two<60):∀(s one:Nat),s<=60->one<b.cs.length ->
  Qb S 74 #[h.v,.int .i64 one,.int .i64 two,.int .i64 s] (λ v U'=>v=.bool (WL b.A two s one)/\U'=U) U:=by
 have ay:=hb.cs.1;intro s
 induction s generalizing U with
 |zero=>
  intro one hs ae;refine Qb.pure' (Qb.of (args:=[_,_,_,_]) Q1e Qd S1 ?_)
  repeat refine⟨rfl,?_⟩
  conv=>whnf
  intro B Q z K;have K:=Zz4 h K;obtain⟨W,c,ga,gl,gc,aa,al,ac,hx,F,ai,P,-,-,ha,ak,G⟩:=(hb.lg z.lg.frz2).case (show one<h.cl by omega);refine⟨Unit,λ _=>[(1,.int .i64 one),(2,.int .i64 two),(3,.int .i64 0),(4,.pb B),(9,.int .i64 0)],λ _ U'=>U'=Q,λ _=>0,(),T1,rfl,?_⟩;rintro _ f _ rfl;refine⟨_,K.sees3 (o:=1) rfl,W,one,⟨F,rfl,O1⟩,_,(P.lg Qy).cell (i:=3) rfl,?_⟩
  repeat refine⟨rfl,?_⟩
  conv=>whnf
  apply Jb<;>intro V
  .repeat refine⟨rfl,?_⟩
   conv=>whnf
   exact z.lg
  .repeat refine⟨rfl,?_⟩
   conv=>whnf
   exact z.lg
 |succ s ih=>
  intro one hs ae;refine Qb.pure' (Qb.of (args:=[_,_,_,_]) Q1e Qd S1 ?_)
  repeat refine⟨rfl,?_⟩
  conv=>whnf
  intro B Q z K;have K:=Zz4 h K;obtain⟨W,c,ga,gl,gc,aa,al,ac,hx,F,ai,P,-,-,ha,ak,G⟩:=(hb.lg z.lg.frz2).case (show one<h.cl by omega);have am:=Bk.aft1_at hx;have aw:=ha.1;have X:=ao.af c G;have hm:WL b.A two (s+1) one=(c.af.map Int.toNat).any λ k=>k==two|| WL b.A two s k:=by rw[<- am];rfl
  rw[hm];have Z:Je (((s+1:Nat):Int)-1):=I1
  have ap:((s+1:Nat):Int)-1=(s:Int):=O1
  have ah:decide (((s+1:Nat):Int) > 0)=true:=decide_eq_true O1;refine⟨Nat,λ i=>[(1,.int .i64 one),(2,.int .i64 two),(3,.int .i64 (s+1:Nat)),(4,.pb B),(9,.int .i64 i)],λ i U'=>Q.lg U'/\i<=al/\((c.af.take i).map Int.toNat).any (λ k=>k==two|| WL b.A two s k)=false,λ i=>al-i,0,T1,⟨(Qa.le.refl _).lg,O1,S1⟩,?_⟩;rintro i f U2⟨e,hi,N⟩;have an:Je ((i:Int)+1):=I1
  have H:Ju U2 (W.add (one*4)) [.string c.nm,.int .i64 c.ag,.slice ga gl gc,.slice aa al ac]:=(P.lg Qy).lg e;have L:=K.lg e;have E:∀{w:Qa T},Q.lg w->U.lg w:=λ h=>z.lg.trans h;refine⟨_,L.sees3 (o:=1) rfl,W,one,⟨F,rfl,O1⟩,_,H.cell (i:=3) rfl,?_⟩
  repeat refine⟨rfl,?_⟩
  conv=>whnf
  apply Jb<;>intro V
  .have hlt:i<al:=by simpa using V
   repeat refine⟨rfl,?_⟩
   conv=>whnf
   rw[ah];obtain⟨aj,x,hy,rfl,ax,aq⟩:=((ha.lg Qy).lg e).at hlt;obtain⟨au,av⟩:=X x (mem_of_getElem? hy);obtain⟨k,rfl⟩:=Int.eq_ofNat_of_zero_le au;have hk:k<b.cs.length:=by unfold Bk.nc at av;omega
   have Y:((c.af.take (i+1)).map Int.toNat).any (λ k=>k==two|| WL b.A two s k)=(k==two|| WL b.A two s k):=by
    rw[Wm hy,map_append,any_append,N];simp
   have I:(k==two|| WL b.A two s k)=true->(c.af.map Int.toNat).any (λ k=>k==two|| WL b.A two s k)=true:=λ h=>by
    rw[any_eq_true];exact⟨k,mem_map.2 ⟨(k:Int),mem_of_getElem? hy,S1⟩,h⟩
   refine⟨_,L.sees3 (o:=1) rfl,W,one,⟨F,rfl,O1⟩,_,H.cell (i:=3) rfl,aj,i,⟨rfl,rfl,hlt⟩,_,aq,?_⟩
   repeat refine⟨rfl,?_⟩
   conv=>whnf
   apply Jb<;>intro V
   .have hne:k≠two:=by
     have M:((k:Int)==(two:Int))=false:=V;have:=ne_of_beq_false M;omega
    refine⟨_,⟨rfl,L.rd⟩,?_⟩;refine⟨Z,?_⟩;rw[ap];refine⟨Q1e.any,(ih (U:=U2) ((hb.lg z.lg.frz2).lg e.frz2) k O1 hk).go λ _=>?_⟩;cases ab:WL b.A two s k with
    |true=>
     rw[I (by rw[ab];simp)]
     repeat refine⟨rfl,?_⟩
     conv=>whnf
     exact E e
    |false=>
     refine⟨an,?_⟩
     conv=>whnf
     exact⟨rfl,i+1,T1,⟨e,O1,by rw[Y,ab];simpa using hne⟩,L1⟩
   .have he:k=two:=by
     have M:((k:Int)==(two:Int))=true:=V;have:=eq_of_beq M;omega
    rw[I (by simp[he])]
    repeat refine⟨rfl,?_⟩
    conv=>whnf
    exact E e
  .have hge:i=al:=by simp at V;omega
   rw[take_of_length_le O1]at N;rw[N]
   repeat refine⟨rfl,?_⟩
   conv=>whnf
   exact E e
end
variable{u:ByteArray}{i:Nat}{E:UInt8}
def Zfu(c:UInt8):IntKind.wrap .i64 (c.toNat:Int)=c.toNat:=by
 have:=c.toNat_lt;simp only[IntKind.wrap,IntKind.signed,IntKind.bits];simp;omega
def Zhh(h:u.data.toList[i]?=some E):u[i]?=some E:=by
 rw[<- h];have:u[i]?=u.data[i]?:=rfl;rw[this,Array.getElem?_toList]
def Zec(c:UInt8):Bool:=Q_ (c.toNat:Int) 97 122
def Zfj(c:UInt8):Bool:=Q_ (c.toNat:Int) 48 57
def Zfe(c:UInt8):GL c=(!Zec c&&!Zfj c):=by
 unfold GL Zec Zfj Q_;rw[Bool.eq_iff_iff];simp
def Zdc:List UInt8->Nat->Bool
 |[],_=>true
 |c::r,i=>(Zec c|| (Zfj c&&!decide (i=0)))&&Zdc r (i+1)
def Zfo:∀(l:List UInt8)(i:Nat),0<i->Zdc l i=!(l.any GL)
 |[],_,_=>rfl
 |c::r,i,h=>by
  rw[Zdc,Zfo r (i+1) O1,any_cons,Zfe,Bool.not_or,Bool.not_and,Bool.not_not,Bool.not_not];have:decide (i=0)=false:=decide_eq_false O1;rw[this];cases Zec c <;> cases Zfj c <;> rfl
def Zf6(s:ByteArray):Zk s=(Q_ s.size 1 10&&Zdc s.data.toList 0):=by
 unfold Zk;have e:s.size=s.data.toList.length:=(Array.length_toList (xs:=s.data)).symm;cases h:s.data.toList with
 |nil=>
  have:Q_ (s.size:Int) 1 10=false:=by unfold Q_;rw[e,h];rfl
  rw[this];rfl
 |cons c r=>
  congr 1;rw[Zdc,Zfo r 1 O1,any_cons,Zfe,Bool.not_or,Bool.not_and,Bool.not_not,Bool.not_not]
  have f:(!(decide ((c.toNat:Int)<97))&&!(decide ((c.toNat:Int) > 122)))=Zec c:=by
   unfold Zec Q_;rw[Bool.eq_iff_iff];simp only[Bool.and_eq_true,Bool.not_eq_true',decide_eq_false_iff_not,decide_eq_true_eq];omega
  simp only[f];cases Zec c <;> simp
def Zeb(nr nc:Int)(seen:List ByteArray)(c:Cs):Int:=
 if Zk c.nm then(if JK seen c.nm then 5 else if Q_ c.ag 0 (nr-1)then(if H9 nr c.gs=0 then ZB nc none c.af else H9 nr c.gs)else 6)else 4
def Zf1(nr nc:Int)(seen:List ByteArray)(c:Cs)(l:List Cs):Hw Zk nr nc seen (c::l)=if Zeb nr nc seen c=0 then Hw Zk nr nc (seen++[c.nm]) l else Zeb nr nc seen c:=by
 have e:Hw Zk nr nc seen (c::l)=if Zk c.nm then(if JK seen c.nm then 5 else
   if Q_ c.ag 0 (nr-1)then(if H9 nr c.gs=0 then(if ZB nc none c.af=0 then Hw Zk nr nc (seen++[c.nm]) l else ZB nc none c.af)else H9 nr c.gs)else 6)else 4:=rfl
 rw[e];unfold Zeb;split
 .split
  .rfl
  .split
   .split
    .rfl
    .rfl
   .rfl
 .rfl
def Zf5(seen:List ByteArray)(s:ByteArray)(l:List ByteArray):G8 Zk seen (s::l)=if Zk s then(if JK seen s then 5 else G8 Zk (seen++[s]) l)else 4:=rfl
def Zf4(l:List ByteArray)(x s:ByteArray):JK (l++[x]) s=(JK l s|| decide (x=s)):=by simp[JK]
def Zf3(nr:Int)(g:List Int)(l:List (List Int)):Hy nr (g::l)=if g.length > 3 then 2 else if ZB nr none g=0 then Hy nr l else ZB nr none g:=rfl
def Zd.take{a:Option Addr}{len n i:Nat}{α:Type}{l:List α}{R:α->List Value->Prop}(h:Zd U a len n l R)(w:i<=len):Zd U a i n (l.take i) R:=by
 refine⟨by rw[length_take,h.1];omega,λ k x e=>?_⟩;have f:=(List.getElem?_eq_some_iff.1 e).1;rw[length_take]at f;rw[getElem?_take_of_lt O1]at e;exact h.2 k x e
def Wt.at{a:Option Addr}{len:Nat}{B:List (List Int)}(h:Wt U a len B){i:Nat}(H:i<len) :
  ∃e g ga gl gc,B[i]?=some g/\a=some e/\e.spot=none/\U.sees ((e.add (i*1)).add 0) (.slice ga gl gc)/\Z8 U ga gl g/\gl<2^60/\g∈B:=by
 obtain⟨e,g,vs,E,f,z,⟨ga,gl,gc,rfl,F,G⟩,-,w⟩:=Zd.at h H;exact⟨e,g,ga,gl,gc,E,f,z,w 0 _ rfl,F,G,mem_of_getElem? E⟩
section
attribute [local irreducible] Qb Zr W5
def Qxl(s:ByteArray)(M:s.size<2^60):Qb S 79 #[.string s] (λ v U'=>v=.bool (Zk s)/\U'=U) U:=by
 refine Qb.pure' (Qb.of (args:=[_]) Zcd Qd S1 ?_);rw[Zf6];have H:s.size=s.data.toList.length:=(Array.length_toList (xs:=s.data)).symm
 repeat refine⟨rfl,?_⟩
 conv=>whnf
 apply Jb<;>intro w
 .have h0:s.size≠0:=by simpa using w
  repeat refine⟨rfl,?_⟩
  conv=>whnf
  apply Qe<;>intro w
  .have:Q_ s.size 1 10=false:=by unfold Q_;simp at w ⊢;omega
   rw[this]
   repeat refine⟨rfl,?_⟩
   conv=>whnf
   exact(Qa.le.refl _).lg
  .have:Q_ s.size 1 10=true:=by unfold Q_;simp at w ⊢;omega
   rw[this,Bool.true_and];refine⟨Nat,λ i=>[(0,.string s),(3,.int .i64 i)],λ i U'=>U.le U'/\i<=s.size/\Zdc s.data.toList 0=Zdc (s.data.toList.drop i) i,λ i=>s.size-i,0,T1,⟨.refl _,O1,rfl⟩,?_⟩;rintro i f I⟨z,L,e⟩
   repeat refine⟨rfl,?_⟩
   conv=>whnf
   apply Qe<;>intro w
   .have hlt:i<s.size:=by simpa using w
    obtain⟨c,F⟩:∃c,s.data.toList[i]?=some c:=⟨_,getElem?_eq_getElem O1⟩;rw[Hk F,Zdc]at e;refine⟨i,c,⟨rfl,Zhh F⟩,.bool (Zec c),λ U' B _=>?_,?_⟩
    .refine⟨Ll.any,(Za1 _ _ _ _).mono ?_⟩;rintro _ U''⟨rfl,G⟩-;exact⟨by rw[Zfu];rfl,_,.refl _,G▸.refl _⟩
    refine⟨i,c,⟨rfl,Zhh F⟩,?_⟩
    conv=>whnf
    intro K B _;refine⟨Ll.any,(Za1 _ _ _ _).go λ _=>?_⟩;rw[Zfu];have E:Je (i+1):=I1
    have next:Zdc s.data.toList 0=Zdc (s.data.toList.drop (i+1)) (i+1)->i+1<=s.size/\Zdc s.data.toList 0=Zdc (s.data.toList.drop (i+1)) (i+1):=λ h=>⟨O1,h⟩
    repeat refine⟨rfl,?_⟩
    conv=>whnf
    apply Jb<;>intro w
    .have h1:Zec c=false:=by simpa using w
     repeat refine⟨rfl,?_⟩
     conv=>whnf
     apply Jb<;>intro w
     .have h2:Zfj c=true:=by simpa[Zfj]using w
      repeat refine⟨rfl,?_⟩
      conv=>whnf
      apply Qe<;>intro w
      .have h3:i=0:=by simpa using w
       repeat refine⟨rfl,?_⟩
       conv=>whnf
       exact⟨by rw[e,h1,h3];simp,(z.trans B).lg⟩
      .have h3:i≠0:=by simpa using w
       refine⟨E,rfl,i+1,T1,⟨z.trans B,next (by rw[e,h1,h2];simp[h3])⟩,L1⟩
     .have h2:Zfj c=false:=by simpa[Zfj]using w
      repeat refine⟨rfl,?_⟩
      conv=>whnf
      exact⟨by rw[e,h1,h2];simp,(z.trans B).lg⟩
    .have h1:Zec c=true:=by simpa using w
     repeat refine⟨rfl,?_⟩
     refine⟨E,rfl,i+1,T1,⟨z.trans B,next (by rw[e,h1];simp)⟩,L1⟩
   .have hge:s.size<=i:=by simpa using w
    rw[drop_eq_nil_of_le O1]at e
    repeat refine⟨rfl,?_⟩
    conv=>whnf
    exact⟨by rw[e];rfl,z.lg⟩
 .have h0:s.size=0:=by simpa using w
  have:Q_ s.size 1 10=false:=by unfold Q_;rw[h0];rfl
  rw[this]
  repeat refine⟨rfl,?_⟩
  conv=>whnf
  exact(Qa.le.refl _).lg
def Qz5(h:BH)(b:Bk)(hb:Zu U.frz h b)(i:Nat)(c:Cs)(hx:b.cs[i]?=some c) :
  Qb S 81 #[h.v,.int .i64 i] (λ v U'=>v=.int .i64 (Zeb b.nr b.nc ((b.cs.take i).map Cs.nm) c)/\U'=U) U:=by
 refine Qb.pure' (Qb.of (args:=[_,_]) Ze6 Qd S1 ?_);have ao:=hb.cs.1;have ap:=hb.cl;have bi:=hb.rs.1;have a1:=hb.rl;have hi:i<h.cl:=by rw[<- ao];exact(List.getElem?_eq_some_iff.1 hx).1
 have bg:b.nr=(h.rl:Int):=by unfold Bk.nr;rw[bi]
 have bf:b.nc=(h.cl:Int):=by unfold Bk.nc;rw[ao]
 have ax:Je ((h.rl:Int)-1):=I1
 rw[bg,bf]
 repeat refine⟨rfl,?_⟩
 conv=>whnf
 intro B U1 ak hB;have hB:=Zz4 h hB;have am:=hb.lg ak.lg.frz2;obtain⟨ad,c',ga,gl,gc,aa,al,ac,bk,ba,bs,bh,hg,bq,ha,a7,ay⟩:=am.case hi;obtain rfl:c=c':=Option.some.inj (hx.symm.trans bk);have bl:=hb.cn c ay;refine⟨_,hB.sees3 (o:=1) rfl,ad,i,⟨ba,rfl,hi⟩,_,⟨rfl,bh.lg Qy⟩,?_⟩
 conv=>whnf
 intro b5 bb;refine⟨_,.refl _,rfl,Zy (vs:=[.string c.nm,.int .i64 c.ag,.slice ga gl gc,.slice aa al ac]) bb rfl (by simp[Value.single]) λ U2 N an=>?_⟩;have aj:=hB.lg N.lg;have a8:=am.lg N.lg.frz2;have hg:=(hg.lg N.lg.frz2);have ha:=(ha.lg N.lg.frz2);have Q:U.lg U2:=ak.lg.trans N.lg;refine⟨_,an.sees3 (o:=0) rfl,Zcd.any,(Qxl c.nm bl).go λ _=>?_⟩;cases hn:Zk c.nm with
 |false=>
  have hs:Zeb h.rl h.cl ((b.cs.take i).map Cs.nm) c=4:=by unfold Zeb;rw[hn];rfl
  rw[hs]
  repeat refine⟨rfl,?_⟩
  conv=>whnf
  exact Q
 |true=>
 have hs:Zeb h.rl h.cl ((b.cs.take i).map Cs.nm) c=(if JK ((b.cs.take i).map Cs.nm) c.nm then 5 else if Q_ c.ag 0 ((h.rl:Int)-1)then(if H9 h.rl c.gs=0 then ZB h.cl none c.af else H9 h.rl c.gs)else 6):=by unfold Zeb;rw[hn];rfl
 rw[hs];refine⟨Nat,λ k=>[(1,.int .i64 i),(2,.pb B),(5,.pb b5),(6,.int .i64 k)],λ k U'=>U2.le U'/\k<=i/\JK ((b.cs.take k).map Cs.nm) c.nm=false,λ k=>i-k,0,T1,⟨.refl _,O1,by simp[JK]⟩,?_⟩;rintro k f U3⟨F,hk,az⟩;have M:=aj.lg F.lg;have I:=an.lg F.lg;have a9:=a8.lg F.lg.frz2;have bd:Je ((k:Int)+1):=I1
 repeat refine⟨rfl,?_⟩
 conv=>whnf
 apply Qe<;>intro E
 .have hlt:k<i:=by simpa using E
  obtain⟨T,c2,ab,ah,ae,bm,bo,bn,a4,L,a3,a0,-,-,-,-,be⟩:=a9.case (show k<h.cl by omega)
  have bj:JK ((b.cs.take (k+1)).map Cs.nm) c.nm=decide (c2.nm=c.nm):=by
   rw[Wm a4,map_append,map_cons,map_nil,Zf4,az,Bool.false_or]
  refine⟨_,M.sees3 (o:=1) rfl,T,k,⟨L,rfl,O1⟩,_,(a0.lg Qy).cell (i:=0) rfl,_,I.sees3 (o:=0) rfl,?_⟩
  conv=>whnf
  intro U4 z _
  repeat refine⟨rfl,?_⟩
  conv=>whnf
  apply Qe<;>intro E
  .have e:c2.nm=c.nm:=by rw[Zdh]at E;simpa using E
   have a5:JK ((b.cs.take i).map Cs.nm) c.nm=true:=by
    rw[Zco,mem_map];refine⟨c2,?_,e⟩;rw[mem_take_iff_getElem];obtain⟨hl,e2⟩:=List.getElem?_eq_some_iff.1 a4;exact⟨k,O1,e2⟩
   rw[a5]
   repeat refine⟨rfl,?_⟩
   conv=>whnf
   exact Q.trans (F.lg.trans z.lg)
  .have e:¬c2.nm=c.nm:=by rw[Zdh]at E;simpa using E
   refine⟨bd,?_⟩
   conv=>whnf
   exact⟨rfl,k+1,T1,⟨F.trans z,O1,by rw[bj];simpa using e⟩,L1⟩
 have au:k=i:=by simp at E;omega
 subst au;rw[az];have G:=Q.trans F.lg;refine⟨_,I.sees3 (o:=1) rfl,_,M.sees3 (o:=0) rfl,ax,Ll.any,(Za1 U3 c.ag 0 ((h.rl:Int)-1)).go λ _=>?_⟩;cases bp:Q_ c.ag 0 ((h.rl:Int)-1)with
 |false=>
  repeat refine⟨rfl,?_⟩
  conv=>whnf
  exact G
 |true=>
 refine⟨_,I.sees3 (o:=2) rfl,?_⟩
 repeat refine⟨rfl,?_⟩
 conv=>whnf
 have W:c.gs.length=gl:=hg.1;apply Qe<;>intro E
 .have Z:H9 h.rl c.gs=2:=by unfold H9;rw[if_pos (by rw[W];simp at E;omega)]
  rw[Z]
  repeat refine⟨rfl,?_⟩
  conv=>whnf
  exact G
 have Z:H9 h.rl c.gs=Hy h.rl c.gs:=by unfold H9;rw[if_neg (by rw[W];simp at E;omega)]
 rw[Z];refine⟨Nat,λ j=>[(1,.int .i64 k),(2,.pb B),(5,.pb b5),(7,.int .i64 j)],λ j U'=>U3.le U'/\j<=gl/\Hy h.rl c.gs=Hy h.rl (c.gs.drop j),λ j=>gl-j,0,T1,⟨.refl _,O1,rfl⟩,?_⟩;rintro j f U4⟨z,hj,w⟩;have ai:=M.lg z.lg;have K:=I.lg z.lg;have aq:=(hg.lg F.lg.frz2).lg z.lg.frz2;have a6:=(ha.lg F.lg.frz2).lg z.lg.frz2;have H:=G.trans z.lg;have aw:Je ((j:Int)+1):=I1
 refine⟨_,K.sees3 (o:=2) rfl,?_⟩
 repeat refine⟨rfl,?_⟩
 conv=>whnf
 apply Qe<;>intro E
 .have hlt:j<gl:=by simpa using E
  obtain⟨T,g,ab,ah,ae,bc,L,a3,a2,X,av,br⟩:=(Wt.lg aq Qy).at hlt;have V:=X.1;rw[Hk bc,Zf3]at w;refine⟨_,K.sees3 (o:=2) rfl,T,j,⟨L,rfl,hlt⟩,_,a2,?_⟩
  repeat refine⟨rfl,?_⟩
  conv=>whnf
  apply Qe<;>intro E
  .have P:g.length > 3:=by rw[V];simp at E;omega
   rw[if_pos P]at w;rw[w]
   repeat refine⟨rfl,?_⟩
   conv=>whnf
   exact H
  have P:¬g.length > 3:=by rw[V];simp at E;omega
  rw[if_neg P]at w;refine⟨_,K.sees3 (o:=2) rfl,T,j,⟨L,rfl,hlt⟩,_,a2,_,ai.sees3 (o:=0) rfl,?_⟩
  conv=>whnf
  intro U5 Y _;refine⟨Zaf.any,(Qr7 ab ah ae g (X.lg Y.lg) av h.rl a1).go λ _=>?_⟩;by_cases hz:ZB (h.rl:Nat) none g=0
  .rw[if_pos hz]at w;rw[hz]
   repeat refine⟨rfl,?_⟩
   refine⟨aw,?_⟩
   conv=>whnf
   exact⟨rfl,j+1,T1,⟨z.trans Y,O1,w⟩,L1⟩
  .rw[if_neg hz]at w;rw[w,if_neg hz]
   repeat refine⟨rfl,?_⟩
   conv=>whnf
   apply Qe<;>intro E
   .repeat refine⟨rfl,?_⟩
    conv=>whnf
    exact H.trans Y.lg
   .exact absurd (by simpa using E) hz
 have au:j=gl:=by simp at E;omega
 rw[drop_eq_nil_of_le O1]at w;rw[w];refine⟨_,K.sees3 (o:=3) rfl,_,ai.sees3 (o:=1) rfl,Zaf.any,(Qr7 aa al ac c.af (a6.lg Qy) a7 h.cl ap).go λ _=>?_⟩
 repeat refine⟨rfl,?_⟩
 conv=>whnf
 exact H
def Qh8(h:BH)(b:Bk)(M:Zu U.frz h b)(E:b.Low):Qb S 35 #[h.v] (λ v U'=>v=.bool (GC b.A)/\U'=U) U:=by
 refine Qb.pure' (Qb.of (args:=[_]) Q1d Qd S1 ?_);have I:=M.cs.1;have Q:=E.nc;have w:b.A.length=h.cl:=by rw[b.A_len,I]
 repeat refine⟨rfl,?_⟩
 conv=>whnf
 intro B L e z;have z:=Zz4 h z;refine⟨Nat,λ i=>[(1,.pb B),(3,.int .i64 i)],λ i U'=>U'=L/\i<=h.cl/\((range i).any λ i=>WL b.A i h.cl i)=false,λ i=>h.cl-i,0,T1,⟨rfl,O1,rfl⟩,?_⟩;rintro i f _⟨rfl,T,F⟩;have K:Je ((i:Int)+1):=I1
 refine⟨_,z.sees3 (o:=1) rfl,?_⟩
 repeat refine⟨rfl,?_⟩
 conv=>whnf
 apply Qe<;>intro N
 .have hlt:i<h.cl:=by simpa using N
  refine⟨_,⟨rfl,z.rd⟩,?_⟩;refine⟨_,z.sees3 (o:=1) rfl,Q1e.any,(Zeq h b (M.lg e.lg.frz2) E i O1 h.cl i O1 O1).go λ _=>?_⟩;cases P:WL b.A i h.cl i with
  |true=>
   have H:GC b.A=true:=by
    unfold GC;rw[w,any_eq_true];exact⟨i,mem_range.2 hlt,P⟩
   rw[H]
   repeat refine⟨rfl,?_⟩
   conv=>whnf
   exact e.lg
  |false=>
   refine⟨K,?_⟩
   conv=>whnf
   exact⟨rfl,i+1,T1,⟨rfl,O1,by rw[range_succ,any_append,F];simp[P]⟩,L1⟩
 .have hge:i=h.cl:=by simp at N;omega
  subst hge;have G:GC b.A=false:=by unfold GC;rw[w];exact F
  rw[G]
  repeat refine⟨rfl,?_⟩
  conv=>whnf
  exact e.lg
def Qox(h:BH)(b:Bk)(X:Zu U.frz h b)(al:h.rl<=h.rc):Qb S 42 #[h.v] (λ v U'=>v=.int .i64 (b.flaw Zk)/\U'=U) U:=by
 refine Qb.pure' (Qb.of (args:=[_]) Zdx Qd S1 ?_);have Y:=X.cs.1;have aj:=X.cl;have ae:=X.rs.1;have ak:=X.rl
 repeat refine⟨rfl,?_⟩
 conv=>whnf
 intro B U1 Q hB;have hB:=Zz4 h hB;have ag:=X.lg Q.lg.frz2;refine⟨_,hB.sees3 (o:=0) rfl,?_⟩
 repeat refine⟨rfl,?_⟩
 conv=>whnf
 apply Qe<;>intro G
 .have z:b.rs.length > 6:=by rw[ae];simp at G;omega
  have H:b.flaw Zk=2:=by unfold Bk.flaw Bk.rsF;rw[if_pos z];rfl
  rw[H]
  repeat refine⟨rfl,?_⟩
  conv=>whnf
  exact Q.lg
 have z:¬b.rs.length > 6:=by rw[ae];simp at G;omega
 have W:b.rsF Zk=G8 Zk [] b.rs:=by unfold Bk.rsF;rw[if_neg z]
 refine⟨Nat,λ i=>[(1,.pb B),(3,.int .i64 i)],λ i U'=>U1.le U'/\i<=h.rl/\G8 Zk [] b.rs=G8 Zk (b.rs.take i) (b.rs.drop i),λ i=>h.rl-i,0,T1,⟨.refl _,O1,rfl⟩,?_⟩;rintro i f U2⟨K,hi,e⟩;have w:=hB.lg K.lg;have L:=ag.lg K.lg.frz2;have F:=Q.lg.trans K.lg;have ai:Je ((i:Int)+1):=I1
 refine⟨_,w.sees3 (o:=0) rfl,?_⟩
 repeat refine⟨rfl,?_⟩
 conv=>whnf
 apply Qe<;>intro G
 .have hlt:i<h.rl:=by simpa using G
  obtain⟨ad,s,P,V,am,hs,ac⟩:=(L.lg Qy).right hlt;rw[Hk P,Zf5]at e
  have aa:(if h.rc=0 then h.ra else h.ra.map (·.add (0*1)))=h.ra:=by
   rw[V];split
   .rfl
   .rfl
  refine⟨_,w.sees3 (o:=0) rfl,ad,i,⟨V,rfl,hlt⟩,_,hs,Zcd.any,(Qxl s (X.rn s ac)).go λ _=>?_⟩;cases hn:Zk s with
  |false=>
   rw[hn]at e;have H:b.flaw Zk=4:=by unfold Bk.flaw;rw[W,e];rfl
   rw[H]
   repeat refine⟨rfl,?_⟩
   conv=>whnf
   exact F
  |true=>
  rw[if_pos hn]at e;refine⟨_,w.sees3 (o:=0) rfl,0,i,⟨rfl,rfl,O1,O1⟩,?_⟩;rw[aa];refine⟨_,w.sees3 (o:=0) rfl,ad,i,⟨V,rfl,hlt⟩,_,hs,?_⟩
  conv=>whnf
  intro U3 T _;refine⟨Ze5.any,(Zeo h.ra i (h.rc-0) (b.rs.take i) (((L.rs.lg Qy λ _ _ h=>h).lg T.lg λ _ _ h=>h).take O1) O1 s).go λ _=>?_⟩
  conv=>whnf
  rw[Zfm];cases hh:JK (b.rs.take i) s with
  |true=>
   rw[if_pos hh]at e;have H:b.flaw Zk=5:=by unfold Bk.flaw;rw[W,e];rfl
   rw[H]
   repeat refine⟨rfl,?_⟩
   conv=>whnf
   exact F.trans T.lg
  |false=>
   rw[if_neg (by simp[hh])]at e
   repeat refine⟨rfl,?_⟩
   refine⟨ai,?_⟩
   conv=>whnf
   exact⟨rfl,i+1,T1,⟨K.trans T,O1,by rw[e,Wm P]⟩,L1⟩
 have ah:i=h.rl:=by simp at G;omega
 rw[drop_eq_nil_of_le O1]at e;have I:b.rsF Zk=0:=by rw[W,e];rfl
 refine⟨_,w.sees3 (o:=1) rfl,?_⟩
 repeat refine⟨rfl,?_⟩
 conv=>whnf
 apply Qe<;>intro G
 .have z:b.cs.length > 5:=by rw[Y];simp at G;omega
  have H:b.flaw Zk=2:=by unfold Bk.flaw Bk.csF;rw[if_pos I,if_pos z];rfl
  rw[H]
  repeat refine⟨rfl,?_⟩
  conv=>whnf
  exact F
 have z:¬b.cs.length > 5:=by rw[Y];simp at G;omega
 have Z:b.csF Zk=Hw Zk b.nr b.nc [] b.cs:=by unfold Bk.csF;rw[if_neg z]
 refine⟨Nat,λ k=>[(1,.pb B),(4,.int .i64 k)],λ k U'=>U'=U2/\k<=h.cl/\Hw Zk b.nr b.nc [] b.cs=Hw Zk b.nr b.nc ((b.cs.take k).map Cs.nm) (b.cs.drop k),λ k=>h.cl-k,0,T1,⟨rfl,O1,rfl⟩,?_⟩;rintro k f _⟨rfl,hk,E⟩;have ab:Je ((k:Int)+1):=I1
 refine⟨_,w.sees3 (o:=1) rfl,?_⟩
 repeat refine⟨rfl,?_⟩
 conv=>whnf
 apply Qe<;>intro G
 .have hlt:k<h.cl:=by simpa using G
  obtain⟨c,P⟩:∃c,b.cs[k]?=some c:=⟨_,getElem?_eq_getElem O1⟩;rw[Hk P,Zf1]at E;refine⟨_,⟨rfl,w.rd⟩,?_⟩;refine⟨Ze6.any,(Qz5 h b L k c P).go λ _=>?_⟩;by_cases hz:Zeb b.nr b.nc ((b.cs.take k).map Cs.nm) c=0
  .rw[if_pos hz]at E;rw[hz]
   repeat refine⟨rfl,?_⟩
   refine⟨ab,?_⟩
   conv=>whnf
   exact⟨rfl,k+1,T1,⟨rfl,O1,by rw[E,Wm P,map_append];rfl⟩,L1⟩
  .rw[if_neg hz]at E;have H:b.flaw Zk=Zeb b.nr b.nc ((b.cs.take k).map Cs.nm) c:=by unfold Bk.flaw;rw[if_pos I,Z,E,if_neg hz]
   rw[H]
   repeat refine⟨rfl,?_⟩
   conv=>whnf
   apply Qe<;>intro G
   .repeat refine⟨rfl,?_⟩
    conv=>whnf
    exact F
   .exact absurd (by simpa using G) hz
 have ah:k=h.cl:=by simp at G;omega
 rw[drop_eq_nil_of_le O1]at E;have M:b.csF Zk=0:=by rw[Z,E];rfl
 have N:=Bk.low_of M;refine⟨_,⟨rfl,w.rd⟩,?_⟩;refine⟨Q1d.any,(Qh8 h b L N).go λ _=>?_⟩
 have hA:∀i,i<b.A.length->∀k∈Jd b.A i,k<b.A.length:=by
  intro i hi k hk;rw[b.A_len]at hi ⊢;have P:b.cs[i]?=some (b.cs[i]):=getElem?_eq_getElem hi;rw[Bk.aft1_at P]at hk;obtain⟨n,hn,rfl⟩:=mem_map.1 hk;have:=N.af _ (getElem_mem hi) n hn;unfold Bk.nc at this;omega
 rw[<- M0 hA];have H:b.flaw Zk=if W4 b.A then 8 else 0:=by unfold Bk.flaw;rw[if_pos I,if_pos M]
 rw[H];cases hl:W4 b.A with
 |true=>
  repeat refine⟨rfl,?_⟩
  conv=>whnf
  exact F
 |false=>
  repeat refine⟨rfl,?_⟩
  conv=>whnf
  exact F
structure Zex(b:Bk):Prop where
 r:∀s∈b.rs,s.size<2^50
 c:∀c∈b.cs,c.nm.size<2^50
def Zd8(h:BH)(b:Bk)(P:Zu U.frz h b)(X:Zex b):Qb S 5 #[h.v] (λ v U'=>(∃g,v=.bool g)/\U'=U) U:=by
 refine Qb.pure' (Qb.of (args:=[_]) Zfq Qd S1 ?_);have a2:=P.cs.1;have aq:=P.cl;have a6:=P.rs.1;have aw:=P.rl
 repeat refine⟨rfl,?_⟩
 conv=>whnf
 intro B Y z L;have L:=Zz4 h L;have Q:=P.lg z.lg.frz2;refine⟨_,L.sees3 (o:=0) rfl,?_⟩
 repeat refine⟨rfl,?_⟩
 conv=>whnf
 apply Jb<;>intro w
 rotate_left
 .repeat refine⟨rfl,?_⟩
  conv=>whnf
  exact⟨⟨_,rfl⟩,z.lg⟩
 have av:h.rl<=40:=by simp at w;omega
 refine⟨_,L.sees3 (o:=1) rfl,?_⟩
 repeat refine⟨rfl,?_⟩
 conv=>whnf
 apply Qe<;>intro w
 .repeat refine⟨rfl,?_⟩
  conv=>whnf
  exact⟨⟨_,rfl⟩,z.lg⟩
 have ap:h.cl<=40:=by simp at w;omega
 refine⟨Nat×Nat,λ y=>[(1,.pb B),(3,.int .i64 y.2),(4,.int .i64 y.1)],λ y U'=>U'=Y/\y.1<=h.rl/\y.2<=y.1*1125899906842624,λ y=>h.rl-y.1,(0,0),T1,⟨rfl,S1,S1⟩,?_⟩;rintro⟨i,n⟩f U2⟨hU,hi,hn⟩;obtain rfl:=hU.symm;simp only at hi hn;have I:Je ((i:Int)+1):=I1
 refine⟨_,L.sees3 (o:=0) rfl,?_⟩
 repeat refine⟨rfl,?_⟩
 conv=>whnf
 apply Qe<;>intro w
 .have hlt:i<h.rl:=by simpa using w
  obtain⟨Z,s,hx,N,ao,hs,H⟩:=(Q.lg Qy).right hlt;have a7:=X.r s H;have G:Je ((n:Int)+(s.size:Nat)):=I1
  have ak:n+s.size<=(i+1)*1125899906842624:=O1
  refine⟨_,L.sees3 (o:=0) rfl,Z,i,⟨N,rfl,hlt⟩,_,hs,G,I,?_⟩
  conv=>whnf
  exact⟨rfl,(i+1,n+s.size),T1,⟨rfl,by show i+1<=_;omega,ak⟩,L1⟩
 have aj:n<=(40+0)*1125899906842624:=Nat.le_trans hn (Nat.mul_le_mul_right _ (by omega:i<=40+0));clear I;refine⟨Nat×Nat,λ y=>[(1,.pb B),(3,.int .i64 y.2),(5,.int .i64 y.1)],λ y U'=>Y.le U'/\y.1<=h.cl/\y.2<=(40+y.1)*1125899906842624,λ y=>h.cl-y.1,(0,n),T1,⟨.refl _,S1,aj⟩,?_⟩;rintro⟨k,m⟩f U3⟨E,hk,hm⟩;simp only at hk hm;have I:Je ((k:Int)+1):=I1
 have K:=L.lg E.lg;have ae:=Q.lg E.lg.frz2;refine⟨_,K.sees3 (o:=1) rfl,?_⟩
 repeat refine⟨rfl,?_⟩
 conv=>whnf
 apply Qe<;>intro w
 .have hlt:k<h.cl:=by simpa using w
  obtain⟨Z,c,ga,gl,gc,aa,al,ac,hx,N,ao,am,hg,a4,ha,a1,H⟩:=ae.case hlt;have a8:=X.c c H;refine⟨_,K.sees3 (o:=1) rfl,Z,k,⟨N,rfl,hlt⟩,_,⟨rfl,am.lg Qy⟩,?_⟩
  conv=>whnf
  intro b5 af;refine⟨_,.refl _,rfl,Zy (vs:=[.string c.nm,.int .i64 c.ag,.slice ga gl gc,.slice aa al ac]) af rfl (by simp[Value.single]) λ U4 M F=>?_⟩;have e:U.lg U4:=z.lg.trans (E.lg.trans M.lg);have V:=(hg.lg M.lg.frz2);have G:Je ((m:Int)+(c.nm.size:Nat)):=I1
  have ai:m+c.nm.size<=(40+(k+1))*1125899906842624:=O1
  refine⟨_,F.sees3 (o:=2) rfl,?_⟩
  repeat refine⟨rfl,?_⟩
  conv=>whnf
  apply Jb<;>intro w
  rotate_left
  .repeat refine⟨rfl,?_⟩
   conv=>whnf
   exact⟨⟨_,rfl⟩,e⟩
  refine⟨_,F.sees3 (o:=3) rfl,?_⟩
  repeat refine⟨rfl,?_⟩
  conv=>whnf
  apply Qe<;>intro w
  .repeat refine⟨rfl,?_⟩
   conv=>whnf
   exact⟨⟨_,rfl⟩,e⟩
  refine⟨Nat,λ j=>[(1,.pb B),(3,.int .i64 m),(5,.int .i64 k),(6,.pb b5),(7,.int .i64 j)],λ j U'=>U'=U4/\j<=gl,λ j=>gl-j,0,T1,⟨rfl,O1⟩,?_⟩;rintro j f U5⟨hU,hj⟩;obtain rfl:=hU.symm;have W:Je ((j:Int)+1):=I1
  refine⟨_,F.sees3 (o:=2) rfl,?_⟩
  repeat refine⟨rfl,?_⟩
  conv=>whnf
  apply Qe<;>intro w
  .have hltj:j<gl:=by simpa using w
   obtain⟨ab,g,ay,a0,az,a3,T,ax,an,ah,au,a5⟩:=(Wt.lg V Qy).at hltj;refine⟨_,F.sees3 (o:=2) rfl,ab,j,⟨T,rfl,hltj⟩,_,an,?_⟩
   repeat refine⟨rfl,?_⟩
   conv=>whnf
   apply Qe<;>intro w
   .repeat refine⟨rfl,?_⟩
    conv=>whnf
    exact⟨⟨_,rfl⟩,e⟩
   refine⟨W,?_⟩
   conv=>whnf
   exact⟨rfl,j+1,T1,⟨rfl,O1⟩,L1⟩
  refine⟨_,F.sees3 (o:=0) rfl,G,I,?_⟩
  conv=>whnf
  exact⟨rfl,(k+1,m+c.nm.size),T1,⟨E.trans M,by show k+1<=_;omega,ai⟩,L1⟩
 repeat refine⟨rfl,?_⟩
 conv=>whnf
 exact⟨⟨_,rfl⟩,z.lg.trans E.lg⟩
end
variable{U':Qa T}{b n:Nat}{e t:TypeId}{c args:Array Value}{vs:List Value}{m:Qa T->Prop}{s j:List Bool}{P:Program}{f:FuncId}
structure Hlr(U:Qa T)(b:Nat)(e:TypeId)(c:Array Value)(U':Qa T):Prop where
 imm:∀x o,U.I x=some o->U'.I x=some o
 own:U'.M=.obj b (.cells c e (0,0))::U.M
 tok:U'.tok=U.tok
 new:U.I b=none
def Hlr.le{U U' U'':Qa T}{b:Nat}{e:TypeId}{c:Array Value}(h:Hlr U b e c U')(k:U'.le U''):Hlr U b e c U'':=⟨λ x o i=>k.imm x o (h.imm x o i),k.own.trans h.own,k.tok.trans h.tok,h.new⟩
def Hlr.frz2(h:Hlr U b e c U'):U.frz.lg U'.frz:=⟨h.imm,⟨[],rfl⟩,h.tok⟩
def Hlr.frz1(h:Hlr U b e c U'):U.frz.lg U':=⟨h.imm,Zz3,h.tok⟩
def Hlr.made(h:U.le U')(w:U'.free b):Hlr U b e c (U'.put b (.cells c e)):=by
 refine⟨h.imm,by show _::U'.M=_;rw[h.own],h.tok,?_⟩;cases f:U.I b with
 |none=>rfl
 |some o=>have:=h.imm b o f;rw[w.1]at this;cases this
def Hlr.write(h:Hlr U b e c U')(w:c.size=vs.length)(B:∀v∈vs,v.single=true)(z:∀f,U.le f->Zo f b vs.toArray->m f):ZG ⟨b,0,none⟩ vs 0 (λ U'=>∃f,Q1 U' f/\m f) U':=by
 refine K6 [] vs 0 c U' h.own B O1 ?_;rw[Vs w];refine⟨_,Wf (b:=b) (M':=U.M) (Perm.refl _),z _ ⟨λ x o i=>?_,rfl,h.tok⟩ Zo.new⟩;show JI U'.I b _ x=_;unfold JI;rw[if_neg]
 .exact h.imm x o i
 .rintro rfl;rw[h.new]at i;cases i
def boC(l:List Bool):List Value:=l.map .bool
def Zeu(l:List Bool)(i:Nat)(x:Bool):(boC l).toArray.setIfInBounds i (.bool x)=(boC (l.set i x)).toArray:=by
 simp[boC,map_set]
def X3.of(h:Ju U ⟨b,0,none⟩ (boC s)):X3 U (some ⟨b,0,none⟩) s.length s:=
 ⟨rfl,λ i x e=>⟨_,rfl,rfl,by rw[Nat.mul_one];exact h i _ (by simp[boC,e])⟩⟩
def Zg1(h:i<n):(replicate i true++replicate (n-i) false).set i true=replicate (i+1) true++replicate (n-(i+1)) false:=by
 obtain⟨m,e⟩:∃m,n-i=m+1:=⟨n-i-1,O1⟩;rw[set_append_right _ _ S1,e];simp only[length_replicate,Nat.sub_self,replicate_succ,set_cons_zero];rw[show n-(i+1)=m by omega,<- replicate_succ,replicate_succ',append_assoc];rfl
def Zg2(h:(match P.info? t with|some e=>e.zero.isSome&&(match e.zero with|some (.bool false)=>true|_=>false)&&e.size==1&&decide (e.bytes<=64)|none=>false)=true):∃e,P.info? t=some e/\e.zero=some (.bool false)/\e.size=1/\e.bytes<=64:=by
 split at h
 .rename_i e hi;simp only[Bool.and_eq_true,beq_iff_eq,decide_eq_true_eq]at h;obtain⟨⟨⟨B,f⟩,w⟩,z⟩:=h;refine⟨e,hi,?_,w,z⟩;split at f
  .assumption
  .cases f
 .cases h
def Zhk{S:Sys P T}(h:Qb S f args (λ v U'=>∃G e,v=.tuple #[.slice (some ⟨G,0,none⟩) s.length s.length,.slice (some ⟨e,0,none⟩) j.length j.length]/\U'.M=.obj G (.cells (boC s).toArray 4 (0,0))::.obj e (.cells (boC j).toArray 4 (0,0))::U.M/\(∀x o,U.I x=some o->U'.I x=some o)/\U'.tok=U.tok) U) :
  Qb S f args (λ v U'=>(∃E Z,v=.tuple #[E,Z]/\WQ U'.frz E s/\WQ U'.frz Z j)/\U.le U') U:=by
 have h1:Qb S f args (λ v U'=>∃E e,v=.tuple #[E,.slice (some ⟨e,0,none⟩) j.length j.length]/\WQ U'.frz E s/\U'.M=.obj e (.cells (boC j).toArray 4 (0,0))::U.M/\(∀x o,U.I x=some o->U'.I x=some o)/\U'.tok=U.tok) U:=by
  refine h.sep λ v U' N⟨G,e,V,L,K,Q⟩=>?_;obtain⟨F,X,z,Y⟩:=D5 (U:={ U' with M:=.obj e (.cells (boC j).toArray 4 (0,0))::U.M }) N L (λ _ _ h=>h) rfl rfl;have H:Zo F.frz G (boC s).toArray:=⟨4,(0,0),Y⟩;exact⟨F,X,_,e,V,H.bools (λ i x B=>by simp[boC,B]),z.own,λ x o B=>z.imm x o (K x o B),z.tok.trans Q⟩
 refine h1.sep λ v U' N⟨E,e,V,W,L,K,Q⟩=>?_;obtain⟨F,X,z,Y⟩:=D5 (U:={ U' with M:=U.M }) N L (λ _ _ h=>h) rfl rfl;have H:Zo F.frz e (boC j).toArray:=⟨4,(0,0),Y⟩;have hz:U'.frz.lg F.frz:=⟨z.imm,⟨[],rfl⟩,z.tok⟩;exact⟨F,X,⟨_,_,V,W.lg hz,H.bools (λ i x B=>by simp[boC,B])⟩,⟨λ x o B=>z.imm x o (K x o B),z.own,z.tok.trans Q⟩⟩
def Zb2:List (List (Nat×St)):=[[(0,.xo 11 0 2),(0,.xl 12 11),(0,.xn 13 12),(0,.xo 15 1 2),(0,.xl 16 15),(0,.xn 17 16),(2,.d 14 (.rw (.makeSlice 48 (.t 13) (.t 13)) 48)),(0,.m 6 14),(2,.d 18 (.rw (.makeSlice 48 (.t 17) (.t 17)) 48))],
 [(0,.xo 11 0 2),(0,.xl 12 11),(0,.xn 13 12),(0,.xo 15 1 2),(0,.xl 16 15),(0,.xn 17 16),(2,.d 18 (.rw (.makeSlice 48 (.t 17) (.t 17)) 48)),(2,.d 14 (.rw (.makeSlice 48 (.t 13) (.t 13)) 48)),(0,.m 6 14)]]
def Ze9:List St:=[.m 7 18]
def Zb4:List (List (Nat×St)):=[[(0,.xo 34 1 2),(0,.xl 35 34),(0,.m 36 1),(0,.m 37 9),(0,.xi 38 1 36 37),(0,.xl 39 38),(0,.xi 40 4 35 39),(0,.xd 41 4 40),(2,.d 10 (.alloc 46 #[(.string ⟨#[]⟩),(.int .i64 0),.nl,.nl]))]]
def Zfa:List St:=[⟨.st 4 (.t 10) (.t 41),none,none,none⟩]
section
attribute [local irreducible] Qb Zr W5
def Qfj(a:Option Addr)(len cap:Nat)(l:List Int)(B:Z8 U a len l)(E:len<2^60)(n:Int) :
  Qb S 45 #[.slice a len cap,.int .i64 n] (λ v U'=>v=.bool (l.contains n)/\U'=U) U:=by
 refine Qb.of (args:=[_,_]) Qop Qd S1 ?_
 repeat refine⟨rfl,?_⟩
 refine⟨Nat,λ i=>[(0,.slice a len cap),(1,.int .i64 n),(5,.int .i64 i)],λ i U'=>U'=U/\i<=len/\n∉l.take i,λ i=>len-i,0,T1,⟨rfl,O1,S1⟩,?_⟩;rintro i f _⟨rfl,K,e⟩
 repeat refine⟨rfl,?_⟩
 conv=>whnf
 apply Qe<;>intro z
 .have hlt:i<len:=by simpa using z
  obtain⟨G,x,F,rfl,I,H⟩:=B.at hlt;refine⟨G,i,⟨rfl,rfl,hlt⟩,_,H,?_⟩
  repeat refine⟨rfl,?_⟩
  conv=>whnf
  apply Qe<;>intro z
  .repeat refine⟨rfl,?_⟩
   conv=>whnf
   have w:x=n:=by simpa using z
   refine⟨?_,rfl⟩;have:n∈l:=w▸mem_of_getElem? F;simp[this]
  .have w:x≠n:=by simpa using z
   refine⟨I1,?_⟩;refine⟨rfl,i+1,T1,⟨rfl,O1,?_⟩,L1⟩;rw[Wm F];simp[e,Ne.symm w]
 .have hge:len<=i:=by simpa using z
  repeat refine⟨rfl,?_⟩
  refine⟨?_,rfl⟩;have:l.take i=l:=take_of_length_le (by rw[B.1];exact hge);rw[this]at e;simp[e]
def Zes(a a':Option Addr)(len cap e w:Nat)(l l':List Int)(K:Z8 U a len l)(F:Z8 U a' e l')(L:len<2^60)(B:e<2^60) :
  Qb S 110 #[.slice a len cap,.slice a' e w] (λ v U'=>v=.bool (l.all λ n=>l'.contains n)/\U'=U) U:=by
 refine Qb.of (args:=[_,_]) Zed Qd S1 ?_;have P:=K.1;refine⟨Nat,λ i=>[(0,.slice a len cap),(1,.slice a' e w),(5,.int .i64 i)],λ i U'=>U'=U/\i<=len/\(l.take i).all (λ n=>l'.contains n)=true,λ i=>len-i,0,T1,⟨rfl,O1,rfl⟩,?_⟩;rintro i f _⟨rfl,V,z⟩;have E:Je ((i:Int)+1):=I1
 repeat refine⟨rfl,?_⟩
 conv=>whnf
 apply Qe<;>intro H
 .have hlt:i<len:=by simpa using H
  obtain⟨N,x,M,rfl,T,Q⟩:=K.at hlt;refine⟨N,i,⟨rfl,rfl,hlt⟩,_,Q,Qop.any,(Qfj a' e w l' F B x).go λ _=>?_⟩;cases I:l'.contains x with
  |false=>
   have G:(l.all λ n=>l'.contains n)=false:=by
    rw[all_eq_false];exact⟨x,mem_of_getElem? M,by rw[I];simp⟩
   rw[G]
   repeat refine⟨rfl,?_⟩
   conv=>whnf
  |true=>
   repeat refine⟨rfl,?_⟩
   refine⟨E,?_⟩
   conv=>whnf
   exact⟨rfl,i+1,T1,⟨rfl,O1,by rw[Wm M,all_append,z];simp only[all_cons,all_nil,I];rfl⟩,L1⟩
 .have hge:i=len:=by simp at H;omega
  rw[take_of_length_le O1]at z;rw[z]
  repeat refine⟨rfl,?_⟩
  conv=>whnf
def Zd9(c:Cs)(ga aa:Option Addr)(gl gc al ac:Nat)(hg:Wt U ga gl c.gs)(ay:gl<2^60)(sa:Option Addr)(sl sc:Nat)(s:List Bool)(hs:X3 U sa sl s)(ai:∀g∈c.gs,∀n∈g,0<=n/\n.toNat<sl) :
  Qb S 111 #[.agg #[.string c.nm,.int .i64 c.ag,.slice ga gl gc,.slice aa al ac],.slice sa sl sc] (λ v U'=>v=.bool (EH c.gs s)/\U'=U) U:=by
 refine Qb.pure' (Qb.of (args:=[_,_]) Zee Qd S1 ?_);have aq:=hg.1
 repeat refine⟨rfl,?_⟩
 conv=>whnf
 intro B U1 z H;have H:Zo U1 B #[.string c.nm,.int .i64 c.ag,.slice ga gl gc,.slice aa al ac]:=H;have hg:=hg.lg z.lg;have hs:=hs.lg z.lg;refine⟨Nat,λ i=>[(1,.slice sa sl sc),(2,.pb B),(5,.int .i64 i)],λ i U'=>U'=U1/\i<=gl/\EH (c.gs.take i) s=false,λ i=>gl-i,0,T1,⟨rfl,O1,rfl⟩,?_⟩;rintro i f U2⟨hU,hi,E⟩;obtain rfl:=hU.symm;have T:Je ((i:Int)+1):=I1
 refine⟨_,H.sees3 (o:=2) rfl,?_⟩
 repeat refine⟨rfl,?_⟩
 conv=>whnf
 apply Qe<;>intro I
 .have hlt:i<gl:=by simpa using I
  obtain⟨ad,g,aw,w,ax,hx,K,az,W,Q,ap,P⟩:=hg.at hlt;have ao:=Q.1;have N:=ai g P
  have G:EH (c.gs.take (i+1)) s=g.all λ r=>s.getD r.toNat false:=by
   unfold EH at E ⊢;rw[Wm hx,any_append,E];simp
  refine⟨Nat×Bool,λ y=>[(1,.slice sa sl sc),(2,.pb B),(5,.int .i64 i),(6,.bool y.2),(7,.int .i64 y.1)],λ y U'=>U'=U1/\y.1<=w/\((g.take y.1).all λ r=>s.getD r.toNat false)=y.2,λ y=>w-y.1,(0,true),T1,⟨rfl,S1,rfl⟩,?_⟩;rintro⟨j,t⟩f U2⟨hU,hj,X⟩;obtain rfl:=hU.symm;simp only at hj X;have F:Je ((j:Int)+1):=I1
  refine⟨_,H.sees3 (o:=2) rfl,ad,i,⟨K,rfl,hlt⟩,_,W,?_⟩
  repeat refine⟨rfl,?_⟩
  conv=>whnf
  apply Qe<;>intro I
  .have hltj:j<w:=by simpa using I
   obtain⟨ab,n,Y,L,au,ak⟩:=Q.at hltj;obtain⟨aj,V⟩:=N n (mem_of_getElem? Y);have e:((g.take (j+1)).all λ r=>s.getD r.toNat false)=(t&&s.getD n.toNat false):=by rw[Wm Y,all_append,X];simp
   cases t with
   |false=>
    refine⟨F,?_⟩
    conv=>whnf
    exact⟨rfl,(j+1,false),T1,⟨rfl,by show j+1<=w;omega,e⟩,L1⟩
   |true=>
    obtain⟨ae,x,an,M,av,am⟩:=hs.at V;have af:s.getD n.toNat false=x:=by simp[getD_eq_getElem?_getD,an]
    refine⟨_,H.sees3 (o:=2) rfl,ad,i,⟨K,rfl,hlt⟩,_,W,ab,j,⟨L,rfl,hltj⟩,_,ak,ae,n.toNat,⟨M,(Int.toNat_of_nonneg aj).symm,V⟩,_,am,F,?_⟩
    conv=>whnf
    exact⟨rfl,(j+1,x),T1,⟨rfl,by show j+1<=w;omega,by rw[e,af];rfl⟩,L1⟩
  have ah:j=w:=by simp at I;omega
  rw[take_of_length_le O1]at X;cases t with
  |true=>
   have Z:EH c.gs s=true:=by
    unfold EH;rw[any_eq_true];exact⟨g,P,X⟩
   rw[Z]
   repeat refine⟨rfl,?_⟩
   conv=>whnf
   exact z.lg
  |false=>
   refine⟨T,?_⟩
   conv=>whnf
   exact⟨rfl,i+1,T1,⟨rfl,O1,by rw[G,X]⟩,L1⟩
 .have ah:i=gl:=by simp at I;omega
  rw[take_of_length_le O1]at E;rw[E]
  repeat refine⟨rfl,?_⟩
  conv=>whnf
  exact z.lg
def Zha:∃e,prog.info? 4=some e/\e.zero=some (.bool false)/\e.size=1/\e.bytes<=64:=Zg2 K1
def Q7v:prog.underlying 48=some (.slice 4):=K1
def Qxp(h:BH)(b:Bk)(hb:Zu U.frz h b)(am:b.Ok)(a:Option Addr)(cap:Nat)(o:List Nat)(ho:Z8 U.frz a o.length (o.map λ(k:Nat)=>(k:Int)))(bi:∀i∈o,i<b.cs.length)(b5:o.length<2^60) :
  Qb S 72 #[h.v,.slice a o.length cap] (λ v U'=>(∃v1 v2,v=.tuple #[v1,v2]/\WQ U'.frz v1 (b.ends o).1/\WQ U'.frz v2 (b.ends o).2)/\U.le U') U:=by
 refine Zhk (Qb.of (args:=[_,_]) Zdy Qd S1 ?_);have a1:=hb.cs.1;have a2:=hb.rs.1;have cf:=am.nr;have ce:=am.nc;obtain⟨i4,an,ao,ap,aq⟩:=Zha
 repeat refine⟨rfl,?_⟩
 conv=>whnf
 intro B T W hB;have hB:=Zz4 h hB;have aj:Zo T.frz B #[.slice h.ra h.rl h.rc,.slice h.ca h.cl h.cc]:=hB;have bs:=hb.lg W.lg.frz2
 let ZR:List Bool:=replicate h.rl false
 let Y:List Bool:=replicate h.cl false
 have ba:(replicate h.rl (Value.bool false)).toArray=(boC ZR).toArray:=by simp[boC,ZR]
 have a9:(replicate h.cl (Value.bool false)).toArray=(boC Y).toArray:=by simp[boC,Y]
 let X:Nat->Nat->List Bool->List Bool->List Q2:=λ z E s w=>.obj z (.cells (boC s).toArray 4 (0,0))::.obj E (.cells (boC w).toArray 4 (0,0))::U.M
 conv=>whnf
 intro ac ae
 refine YM (mu:=[1009]) (ops:=PN Tryz.f72 1) (id:=1) ae [3,7] [[0,1,2,4,5,6,3,8,7],[0,1,2,4,5,6,7,3,8]] [9] Zb2 Ze9 Qd K1 K1 K1 K1 K1
  (λ f' Z U'=>Z=[]/\∃z E,XH f' [(1,.slice a o.length cap),(2,.pb B),(6,.slice (some ⟨z,0,none⟩) h.rl h.rl),(18,.slice (some ⟨E,0,none⟩) h.cl h.cl)]/\T.frz.lg U'/\U'.M=X z E ZR Y) ?_ ?_
 .intro l H;simp only[Zb2,mem_cons,not_mem_nil,or_false]at H;rcases H with rfl|rfl
  .refine⟨_,aj.sees3 (o:=0) rfl,_,aj.sees3 (o:=1) rfl,λ v U'=>∃z,v=.slice (some ⟨z,0,none⟩) h.rl h.rl/\T.frz.lg U'/\U'.M=.obj z (.cells (boC ZR).toArray 4 (0,0))::U.M,λ v x1 x2⟨z,e,H,P⟩F=>⟨z,e,H.trans F.lg,F.own.trans P⟩,λ v U'⟨z,e,H,P⟩=>H,λ U' V=>?_,λ v hv=>?_⟩
   .conv=>whnf
    refine S9 (n:=h.rl) Q7v an ao rfl ap aq rfl rfl O1 λ z b1=>?_;refine⟨_,.refl _,z,rfl,⟨λ x o N=>V.imm x o N,Zz3,V.tok⟩,?_⟩;show _::U'.M=_;rw[V.own,W.own,ba]
   obtain⟨_,z,rfl,-⟩:=hv;refine⟨λ v U'=>∃E,v=.slice (some ⟨E,0,none⟩) h.cl h.cl/\T.frz.lg U'/\U'.M=X z E ZR Y,λ v x1 x2⟨z,e,H,P⟩F=>⟨z,e,H.trans F.lg,F.own.trans P⟩,λ v U'⟨z,e,H,P⟩=>H,λ U' V=>?_,λ v hv=>?_⟩
   .obtain⟨a4,e,L,K⟩:=V;obtain rfl:z=a4:=by simpa using e
    conv=>whnf
    refine S9 (n:=h.cl) Q7v an ao rfl ap aq rfl rfl O1 λ E b3=>?_;refine⟨_,Hf (M':=X z E ZR Y) ?_,E,rfl,⟨λ x o N=>L.imm x o N,Zz3,L.tok⟩,rfl⟩;show(_::U'.M).Perm _;rw[K,a9];exact Perm.swap _ _ _
   obtain⟨_,E,rfl,-⟩:=hv
   conv=>whnf
   rintro U'⟨a5,e,L,K⟩;obtain rfl:E=a5:=by simpa using e
   exact⟨rfl,z,E,T1,L,K⟩
  .refine⟨_,aj.sees3 (o:=0) rfl,_,aj.sees3 (o:=1) rfl,λ v U'=>∃E,v=.slice (some ⟨E,0,none⟩) h.cl h.cl/\T.frz.lg U'/\U'.M=.obj E (.cells (boC Y).toArray 4 (0,0))::U.M,λ v x1 x2⟨z,e,H,P⟩F=>⟨z,e,H.trans F.lg,F.own.trans P⟩,λ v U'⟨z,e,H,P⟩=>H,λ U' V=>?_,λ v hv=>?_⟩
   .conv=>whnf
    refine S9 (n:=h.cl) Q7v an ao rfl ap aq rfl rfl O1 λ E b3=>?_;refine⟨_,.refl _,E,rfl,⟨λ x o N=>V.imm x o N,Zz3,V.tok⟩,?_⟩;show _::U'.M=_;rw[V.own,W.own,a9]
   obtain⟨_,E,rfl,-⟩:=hv;refine⟨λ v U'=>∃z,v=.slice (some ⟨z,0,none⟩) h.rl h.rl/\T.frz.lg U'/\U'.M=X z E ZR Y,λ v x1 x2⟨z,e,H,P⟩F=>⟨z,e,H.trans F.lg,F.own.trans P⟩,λ v U'⟨z,e,H,P⟩=>H,λ U' V=>?_,λ v hv=>?_⟩
   .obtain⟨a5,e,L,K⟩:=V;obtain rfl:E=a5:=by simpa using e
    conv=>whnf
    refine S9 (n:=h.rl) Q7v an ao rfl ap aq rfl rfl O1 λ z b1=>?_;refine⟨_,.refl _,z,rfl,⟨λ x o N=>L.imm x o N,Zz3,L.tok⟩,?_⟩;show _::U'.M=_;rw[K,ba]
   obtain⟨_,z,rfl,-⟩:=hv
   conv=>whnf
   rintro U'⟨a4,e,L,K⟩;obtain rfl:z=a4:=by simpa using e
   exact⟨rfl,z,E,T1,L,K⟩
 rintro f' Z U3⟨rfl,z,E,ab,bh,a8⟩;rw[<- ab.ovr];clear ab
 conv=>whnf
 intro a' ak;refine⟨by rw[ak.size,ae.size],_,ak.get,?_⟩;rw[ak.ds];clear ak ae
 refine⟨Nat,λ i=>[(1,.slice a o.length cap),(2,.pb B),(6,.slice (some ⟨z,0,none⟩) h.rl h.rl),(7,.slice (some ⟨E,0,none⟩) h.cl h.cl),(8,.int .i64 i)],
  λ i U'=>T.frz.lg U'/\i<=h.rl/\U'.M=X z E (replicate i true++replicate (h.rl-i) false) Y,λ i=>h.rl-i,0,T1,⟨bh,O1,by rw[a8];simp[ZR]⟩,?_⟩
 rintro i f U4⟨H,hi,P⟩;have b0:Je ((i:Int)+1):=I1
 repeat refine⟨rfl,?_⟩
 conv=>whnf
 apply Qe<;>intro hc
 .have hlt:i<h.rl:=by simpa using hc
  refine⟨_,i,⟨rfl,rfl,hlt⟩,rfl,qr (L₁:=[]) (by rw[P];exact Perm.refl _) (by simp[boC];omega) rfl λ x1 k1 k2 k3=>?_⟩
  have K:x1.M=X z E (replicate (i+1) true++replicate (h.rl-(i+1)) false) Y:=by
   rw[k3,Nat.mul_one];show([]:List Q2)++.obj z (.cells ((boC _).toArray.setIfInBounds i (.bool true)) 4 (0,0))::_=_;rw[Zeu,Zg1 hlt];rfl
  refine⟨b0,?_⟩
  conv=>whnf
  exact⟨rfl,i+1,T1,⟨⟨λ x o N=>by rw[k1];exact H.imm x o N,Zz3,by rw[k2];exact H.tok⟩,O1,K⟩,L1⟩
 have bd:i=h.rl:=by simp at hc;omega
 subst bd;have bf:b.ini=(replicate h.rl true++replicate (h.rl-h.rl) false,Y):=by simp[Bk.ini,Y,a2,a1]
 refine⟨Nat,λ j=>[(1,.slice a o.length cap),(2,.pb B),(6,.slice (some ⟨z,0,none⟩) h.rl h.rl),(7,.slice (some ⟨E,0,none⟩) h.cl h.cl),(9,.int .i64 j)],
  λ j U'=>T.frz.lg U'/\j<=o.length/\U'.M=X z E (b.ends (o.take j)).1 (b.ends (o.take j)).2,λ j=>o.length-j,0,T1,⟨H,O1,by rw[P];show _=X z E b.ini.1 b.ini.2;rw[bf]⟩,?_⟩
 rintro j f U5⟨ah,hj,az⟩;have ax:Je ((j:Int)+1):=I1
 repeat refine⟨rfl,?_⟩
 conv=>whnf
 apply Qe<;>intro hc
 .have hlt:j<o.length:=by simpa using hc
  obtain⟨n,a3⟩:∃n,o[j]?=some n:=⟨_,getElem?_eq_getElem hlt⟩;have hn:=bi n (mem_of_getElem? a3);obtain⟨a6,x2,bm,aw,b6,bk⟩:=(ho.lg W.lg.frz2).at hlt;obtain rfl:(n:Int)=x2:=by rw[getElem?_map,a3]at bm;exact Option.some.inj bm
  obtain⟨ad,c,ga,gl,gc,aa,al,ac,N,bv,cg,b2,hg,bw,ha,b9,ay⟩:=bs.case (show n<h.cl by omega);have bb:b.cas n=c:=by simp[Bk.cas,getD_eq_getElem?_getD,N]
  have br:=am.ag c ay;have bz:=am.gs c ay;have f5:T.frz.lg U5.frz:=ah.frz2;have bn:Zo U5.frz B #[.slice h.ra h.rl h.rc,.slice h.ca h.cl h.cc]:=hB.imI ah.imm
  conv=>whnf
  intro b8 af
  refine YM (mu:=[1009]) (ops:=PN Tryz.f72 9) (id:=9) af [8] [[0,1,2,3,4,5,6,7,8]] [9] Zb4 Zfa Qd K1 K1 K1 K1 K1
   (λ f' Z U'=>Z=[]/\∃I,XH f' [(1,.slice a o.length cap),(2,.pb B),(6,.slice (some ⟨z,0,none⟩) h.rl h.rl),(7,.slice (some ⟨E,0,none⟩) h.cl h.cl),(9,.int .i64 j),(10,.pb I),(41,.agg #[.string c.nm,.int .i64 c.ag,.slice ga gl gc,.slice aa al ac])]/\Hlr U5 I 46 #[.string ⟨#[]⟩,.int .i64 0,.nl,.nl] U') ?_ ?_
  .intro l H;simp only[Zb4,mem_cons,not_mem_nil,or_false]at H;subst H;refine⟨_,bn.sees3 (o:=1) rfl,a6,j,⟨aw,rfl,hlt⟩,_,bk.lg f5,ad,n,⟨bv,rfl,O1⟩,_,⟨rfl,b2.lg f5⟩,λ v U'=>∃I,v=.pb I/\Hlr U5 I 46 #[.string ⟨#[]⟩,.int .i64 0,.nl,.nl] U',λ v x1 x2⟨q,e,hh⟩F=>⟨q,e,hh.le F⟩,λ v U'⟨q,e,hh⟩=>hh.frz1,λ U' V=>?_,λ v hv=>?_⟩
   .conv=>whnf
    intro I bc;exact⟨_,.refl _,_,.refl _,I,rfl,Hlr.made V bc⟩
   obtain⟨_,I,rfl,-⟩:=hv
   conv=>whnf
   rintro U'⟨a7,e,hh⟩;obtain rfl:I=a7:=by simpa using e
   exact⟨rfl,I,T1,hh⟩
  rintro f' Z U6⟨rfl,I,ab,be⟩;rw[<- ab.ovr];clear ab;refine⟨rfl,be.write (vs:=[.string c.nm,.int .i64 c.ag,.slice ga gl gc,.slice aa al ac]) rfl (by simp[Value.single]) λ U7 h7 av=>?_⟩
  conv=>whnf
  intro b7 Q;refine⟨by rw[Q.size,af.size],_,Q.get,?_⟩;rw[Q.ds];clear Q af;have ai:T.frz.lg U7:=ah.trans h7.lg;have a0:U7.M=X z E (b.ends (o.take j)).1 (b.ends (o.take j)).2:=h7.own.trans az;have bl:=(b.end_len (o.take j));have bj:(b.ends (o.take j)).1.length=h.rl:=by rw[bl.1,a2]
  have b4:(b.ends (o.take j)).2.length=h.cl:=by rw[bl.2,a1]
  have bu:X3 U7 (some ⟨z,0,none⟩) h.rl (b.ends (o.take j)).1:=bj▸X3.of (Ze [] a0);have G:b.ends (o.take (j+1))=b.stp (b.ends (o.take j)) n:=by rw[Wm a3,b.ends_snoc]
  unfold Bk.stp at G;rw[bb]at G;refine⟨_,⟨rfl,av.rd⟩,?_⟩;refine⟨Zee.any,(Zd9 c ga aa gl gc al ac ((hg.lg ai.frz2).lg Qy) bw (some ⟨z,0,none⟩) h.rl h.rl (b.ends (o.take j)).1 bu (λ g bx n hn=>?_)).mono ?_⟩
  .have:=(bz g bx).2 n hn;unfold Bk.nr at this;omega
  rintro _ U'⟨rfl,bq⟩-;obtain rfl:=bq.symm;have au:c.ag=(c.ag.toNat:Int)/\c.ag.toNat<h.rl:=by unfold Bk.nr at br;omega
  cases hw:EH c.gs (b.ends (o.take j)).1 with
  |true=>
   rw[if_pos hw]at G;refine⟨a6,j,⟨aw,rfl,hlt⟩,_,bk.lg (Qy.trans ai:T.frz.frz.lg U7),_,n,⟨rfl,rfl,O1⟩,rfl,qr (L₁:=[_]) (by rw[a0];first|done|exact Perm.refl _) (by simp[boC];omega) rfl λ x1 k1 k2 k3=>?_⟩
   have bo:x1.M=X z E (b.ends (o.take j)).1 ((b.ends (o.take j)).2.set n true):=by
    rw[k3,Nat.mul_one];show([Q2.obj z _]:List Q2)++Q2.obj E (.cells ((boC _).toArray.setIfInBounds n (.bool true)) 4 (0,0))::_=_;rw[Zeu];rfl
   have bg:T.frz.lg x1:=⟨λ x o N=>by rw[k1];exact ai.imm x o N,Zz3,by rw[k2];exact ai.tok⟩;have bt:=av.imI (U':=x1) λ x o N=>by rw[k1];exact N
   refine⟨_,bt.sees3 (o:=1) rfl,_,c.ag.toNat,⟨rfl,au.1,au.2⟩,rfl,qr (L₁:=[]) (by rw[bo];first|done|exact Perm.refl _) (by simp[boC];omega) rfl λ x2 k4 k5 k6=>?_⟩
   have bp:x2.M=X z E (b.ends (o.take (j+1))).1 (b.ends (o.take (j+1))).2:=by
    rw[k6,Nat.mul_one,G];show([]:List Q2)++.obj z (.cells ((boC _).toArray.setIfInBounds c.ag.toNat (.bool false)) 4 (0,0))::_=_;rw[Zeu];rfl
   refine⟨ax,?_⟩
   conv=>whnf
   exact⟨rfl,j+1,T1,⟨⟨λ x o N=>by rw[k4];exact bg.imm x o N,Zz3,by rw[k5];exact bg.tok⟩,O1,bp⟩,L1⟩
  |false=>
   rw[if_neg (by simp[hw])]at G;refine⟨ax,?_⟩
   conv=>whnf
   exact⟨rfl,j+1,T1,⟨ai,O1,by rw[a0,G]⟩,L1⟩
 have bd:j=o.length:=by simp at hc;omega
 rw[take_of_length_le O1]at az;have he:=b.end_len o
 repeat refine⟨rfl,?_⟩
 conv=>whnf
 exact⟨z,E,by rw[he.1,he.2,a2,a1];rfl,az,λ x o N=>ah.imm x o (W.imm x o N),ah.tok.trans W.tok⟩
end
variable{Q:Value->Qa T->Prop}{a:Option Addr}{cs w:List Value}{xs:Value->Array Value}{l:List Int}{v:Value}{F z:List (List Int)}{A:Bk}
section
variable{S:Sys P T}
def Qb.pre(w:Q1 U U')(h:Qb S f args Q U'):Qb S f args Q U:=λ Stop m c cs k=>.shift w (h Stop m c cs k)
end
def Src.lgs(h:Src U a cs)(w:U.lg U'):Src U' a cs:=by
 rcases h with h|⟨f,e,z⟩
 .exact .inl h
 .exact .inr ⟨f,e,z.lg w⟩
def Qcj(U:Qa T)(l:List Int)(v:Value)(U':Qa T):Prop:=(∃a l c,v=.slice a l c)/\U.frz.lg U'/\Acc 3 1 v (l.map λ n=>.int .i64 n) U'.M U.M
def Qcj.le{l:List Int}{v:Value}{U'':Qa T}(h:Qcj U l v U')(k:U'.le U''):Qcj U l v U'':=⟨h.1,h.2.1.trans k.lg,by rw[k.own];exact h.2.2⟩
def Qcj.new(h:U.le U'):Qcj U [] (.slice (some ⟨b,0,none⟩) 0 0) (U'.put b (.cells #[] 3)):=
 ⟨⟨_,_,_,rfl⟩,⟨λ x o e=>h.imm x o e,Zz3,h.tok⟩,.inr ⟨b,#[],0,0,rfl,rfl,Nat.le_refl _,rfl,by show _::U'.M=_;rw[h.own],S1⟩⟩
section
variable{S:Sys P T}
def Qcj.give(h:Qcj U l v U')
  (k:∀(e:Qa T)a cap,v=.slice a l.length cap->U.le e->Z8 e.frz a l.length l->Qb S f (xs v) Q e):Qb S f (xs v) Q U':=by
 refine Qb.sep0 λ E=>?_;obtain⟨e,G,H,a,len,cap,rfl,B,w,z,-⟩:=h.2.2.freeze E (λ x o F=>h.2.1.imm x o F) h.2.1.tok;simp at B;subst B;exact .pre G (k e a cap rfl H (VS w z))
end
def Xr.single{cs:List Value}{B:List (List Int)}(h:Xr U cs B):∀w∈cs,w.single=true:=λ w z=>by
 obtain⟨i,f,e⟩:=mem_iff_getElem.1 z;obtain⟨a,c,e',-⟩:=h.2 i _ (getElem?_eq_getElem (by rw[<- h.1];exact f));rw[getElem?_eq_getElem f,e]at e';rw[Option.some.inj e'];rfl
def Xr.app(h:Xr U cs F)(f:Xr U w z):Xr U (cs++w) (F++z):=by
 refine⟨by simp[h.1,f.1],λ i x B=>?_⟩;by_cases G:i<F.length
 .rw[getElem?_append_left G]at B;obtain⟨a',E,e,f,g⟩:=h.2 i x B;exact⟨a',E,by rw[getElem?_append_left (by rw[h.1];exact G)];exact e,f,g⟩
 .rw[getElem?_append_right O1]at B;obtain⟨a',E,e,f,g⟩:=f.2 _ x B;exact⟨a',E,by rw[getElem?_append_right (by rw[h.1];omega),h.1];exact e,f,g⟩
def Zem(U:Qa T)(v:Value)(f:List (List Int)):Prop:=∃a c cells,v=.slice a cells.length c/\Src U.frz a cells/\(∀e,a=some e->e.spot=none)/\Xr U cells f
def Zef(o:List Nat)(i:Nat):(o.map λ(k:Nat)=>(k:Int)).contains (i:Int)=o.contains i:=by
 rw[Bool.eq_iff_iff,contains_iff_mem,contains_iff_mem,mem_map];exact⟨λ⟨k,f,e⟩=>(by omega:k=i)▸f,λ h=>⟨i,h,rfl⟩⟩
def Bk.aft_all(w:A.Ok){c:Cs}(z:A.cs[i]?=some c)(o:List Nat):(c.af.all λ n=>(o.map λ(k:Nat)=>(k:Int)).contains n)=(Jd A.A i).all λ k=>o.contains k:=by
 rw[Bk.aft1_at z,all_map,Bool.eq_iff_iff,all_eq_true,all_eq_true]
 have e:∀n∈c.af,(o.map λ(k:Nat)=>(k:Int)).contains n=o.contains n.toNat:=λ n f=>by
  obtain⟨q,rfl⟩:=Int.eq_ofNat_of_zero_le (w.af c (mem_of_getElem? z) n f).1;rw[Zef];rfl
 exact⟨λ h n f=>by show o.contains n.toNat=true;rw[<- e n f];exact h n f,λ h n f=>by rw[e n f];exact h n f⟩
def Bk.ordsTo_end(b:Bk)(k:Nat)(o:List Nat):b.ordsTo k o b.cs.length=b.ords (k+1) o:=rfl
def Bk.ordsTo_len(e:A.Ok){k:Nat}(w:k+1<=5)(o:List Nat){m:Nat}(z:m<=A.cs.length):(A.ordsTo k o m).length<=3125:=by
 obtain⟨r,B⟩:=A.ordsTo_le k o z;have f:=A.ords_le e.nc (k+1) o;rw[B,length_append]at f;have E:5^(k+1)<=5^5:=Nat.pow_le_pow_right O1 w;have F:(5:Nat)^5=3125:=D1
 omega
def Zb8:List (List (Nat×St)):=[[(0,.m 38 5),(0,.xd 39 2 2),(0,.m 41 1),(0,.m 43 6),(2,.d 40 (.bsl 3 0 #[] [])),(2,.xz 42 40 41 44),(2,.d 44 (.bsl 3 1 #[(.int .i64 0)] [(0,1,(.t 43))])),(2,.xz 45 42 44 44),(2,.d 46 (.call (.func 71) #[(.t 39),(.t 45)]))],
 [(0,.m 38 5),(0,.xd 39 2 2),(0,.m 41 1),(0,.m 43 6),(2,.d 40 (.bsl 3 0 #[] [])),(2,.d 44 (.bsl 3 1 #[(.int .i64 0)] [(0,1,(.t 43))])),(2,.xz 42 40 41 44),(2,.xz 45 42 44 44),(2,.d 46 (.call (.func 71) #[(.t 39),(.t 45)]))],
 [(0,.m 38 5),(0,.xd 39 2 2),(0,.m 41 1),(0,.m 43 6),(2,.d 44 (.bsl 3 1 #[(.int .i64 0)] [(0,1,(.t 43))])),(2,.d 40 (.bsl 3 0 #[] [])),(2,.xz 42 40 41 44),(2,.xz 45 42 44 44),(2,.d 46 (.call (.func 71) #[(.t 39),(.t 45)]))]]
def Zfc:List St:=[.xz 47 38 46 43,.m 5 47]
section
attribute [local irreducible] Qb Zr W5
def Qon(h:BH)(b:Bk)(az:b.Ok)(b0:b.cs.length=h.cl):∀(m:Nat)(o:List Nat)(U:Qa T),Zu U.frz h b->∀(pa:Option Addr)(pc:Nat),Z8 U.frz pa o.length (Qan o)->o.length+m=h.cl ->
  Qb S 71 #[h.v,.slice pa o.length pc] (λ v U'=>Zem U' v ((b.ords m o).map Qan)/\U.le U') U:=by
 intro m
 induction m with
 |zero=>
  intro o U hb pa pc hO be;have bs:=az.nc
  have a0:Qb S 71 #[h.v,.slice pa o.length pc] (λ v U'=>∃p a l c,v=.slice (some ⟨p,0,none⟩) 1 1/\Zo U' p #[.slice a l c]/\Qcj U (Qan o) (.slice a l c) U') U:=by
   refine Qb.of (args:=[_,_]) Qfx Qd S1 ?_
   repeat refine⟨rfl,?_⟩
   conv=>whnf
   intro B U1 aj hB;have hB:=Zz4 h hB;refine⟨_,hB.sees3 (o:=1) rfl,?_⟩
   repeat refine⟨rfl,?_⟩
   conv=>whnf
   apply Qe<;>intro hc
   rotate_left
   .exfalso;simp at hc;omega
   conv=>whnf
   intro aw bv;refine⟨_,.refl _,?_⟩;have hn:Qcj U [] (.slice (some ⟨aw,0,none⟩) 0 0) (U1.put aw (.cells #[] 3)):=.new aj
   conv=>whnf
   refine Wv (v:=.slice (some ⟨aw,0,none⟩) 0 0) (cs:=([]:List Int).map λ n=>.int .i64 n) (new:=(Qan o).map λ n=>.int .i64 n) (M₀:=U.M) Hc rfl rfl hn.2.2 ((hO.lg hn.2.1.frz2).lg Qy).src' (by simp[Qan]) (by simp[Value.single]) (by simp[Qan];omega) λ v' M' F _=>?_;obtain⟨ta,tl,tc,rfl,-⟩:=Acc.src (U:={ (U1.put aw (.cells #[] 3))with M:=M' }) F;have bk:Qcj U (Qan o) (.slice ta tl tc) ({ (U1.put aw (.cells #[] 3))with M:=M' }:Qa T):=⟨⟨_,_,_,rfl⟩,⟨hn.2.1.imm,Zz3,hn.2.1.tok⟩,by simpa using F⟩
   conv=>whnf
   intro bh bc;refine Zm bc λ U2 bj bb=>?_
   repeat refine⟨rfl,?_⟩
   conv=>whnf
   exact⟨bh,ta,tl,tc,rfl,bb,bk.le bj⟩
  refine a0.sep λ v U' hs⟨p,a,l,c,e,bn,G⟩=>?_;obtain⟨U1,k1,k2,a',len,cap,e',hl,ai,a3,-⟩:=Acc.freeze (U:={ U' with M:=U.M }) hs G.2.2 (λ _ _ h=>h) rfl;obtain⟨rfl,rfl,rfl⟩:a=a'/\l=len/\c=cap:=by simpa using e'
  have hz:U'.frz.lg U1.frz:=⟨k2.imm,⟨[],rfl⟩,k2.tok⟩;have a7:(Qan o).length=l:=by simpa[Qan]using hl
  have hI:=VS ai a3;refine⟨U1,k1,⟨some ⟨p,0,none⟩,1,[.slice a l c],e,.inr ⟨_,rfl,((show Zo U'.frz p #[.slice a l c] from bn).lg hz).rd⟩,(λ ad e=>by cases e;rfl),rfl,λ i x hx=>?_⟩,⟨λ x u hx=>k2.imm x u (G.2.1.imm x u hx),k2.own,k2.tok.trans G.2.1.tok⟩⟩;have hx:[Qan o][i]?=some x:=hx
  obtain⟨rfl,rfl⟩:i=0/\x=Qan o:=by
   cases i with
   |zero=>exact⟨rfl,by simpa using hx.symm⟩
   |succ i=>simp at hx
  exact⟨a,c,by rw[a7];rfl,hI,by rw[a7];simp[Qan]at a7;omega⟩
 |succ k ih=>
  intro o U hb pa pc hO be;have bs:=az.nc
  have a0:Qb S 71 #[h.v,.slice pa o.length pc] (λ v U'=>∃cells,Acc 44 1 v cells U'.M U.M/\Xr U' cells ((b.ords (k+1) o).map Qan)/\(∀x ox,U.I x=some ox->U'.I x=some ox)/\U'.tok=U.tok) U:=by
   refine Qb.of (args:=[_,_]) Qfx Qd S1 ?_
   repeat refine⟨rfl,?_⟩
   conv=>whnf
   intro B U1 aj hB;have hB:=Zz4 h hB;have bi:Zo U1.frz B #[.slice h.ra h.rl h.rc,.slice h.ca h.cl h.cc]:=hB;have bm:=hb.lg aj.lg.frz2;refine⟨_,hB.sees3 (o:=1) rfl,?_⟩
   repeat refine⟨rfl,?_⟩
   conv=>whnf
   apply Qe<;>intro hc
   .exfalso;simp at hc;omega
   refine⟨Nat×Value,λ y=>[(1,.slice pa o.length pc),(2,.pb B),(5,y.2),(6,.int .i64 y.1)],λ y U'=>U1.frz.lg U'/\y.1<=h.cl/\∃cells,Acc 44 1 y.2 cells U'.M U.M/\Xr U' cells ((b.ordsTo k o y.1).map Qan),λ y=>h.cl-y.1,(0,.nl),T1,⟨Qy,O1,[],by rw[aj.own];exact .nil,rfl,by simp[Bk.ordsTo]⟩,?_⟩;rintro⟨i,v⟩f V⟨Q,hi,cells,G,P⟩;simp only at G P hi;obtain⟨oa,ol,oc,rfl,b3,-⟩:=G.src;have a6:Je ((i:Int)+1):=I1
   have am:Zo V.frz B #[.slice h.ra h.rl h.rc,.slice h.ca h.cl h.cc]:=bi.lg Q.frz2;have a4:Zo V B #[.slice h.ra h.rl h.rc,.slice h.ca h.cl h.cc]:=am.lg Qy;have a1:=bm.lg Q.frz2;have ax:Z8 V.frz pa o.length (Qan o):=(hO.lg aj.lg.frz2).lg Q.frz2;have ae:=b.ordsTo_succ k o i;refine⟨_,a4.sees3 (o:=1) rfl,?_⟩
   repeat refine⟨rfl,?_⟩
   conv=>whnf
   apply Qe<;>intro hc
   rotate_left
   .have hge:i=b.cs.length:=by simp at hc;omega
    rw[hge,b.ordsTo_end]at P
    repeat refine⟨rfl,?_⟩
    conv=>whnf
    exact⟨cells,G,P,λ x ox hx=>Q.imm x ox (aj.imm x ox hx),Q.tok.trans aj.tok⟩
   have bf:i<h.cl:=by simpa using hc
   obtain⟨ad,c,ga,gl,gc,aa,al,ac,hx,bq,a3,bt,hg,b1,ha,bl,bw⟩:=a1.case bf;have bu:=ha.1;have skip:b.can o i=false->((b.ordsTo k o (i+1)).map Qan)=(b.ordsTo k o i).map Qan:=λ e=>by rw[ae,e];simp
   refine⟨Qop.any,(Qfj pa o.length pc (Qan o) (ax.lg Qy) O1 (i:Int)).go λ _=>?_⟩;rw[Zef];cases z:o.contains i with
   |true=>
    have ah:b.can o i=false:=by unfold Bk.can;rw[z];rfl
    refine⟨a6,?_⟩
    conv=>whnf
    exact⟨rfl,(i+1,.slice oa ol oc),T1,⟨Q,by show i+1<=h.cl;omega,cells,G,by show Xr _ _ ((b.ordsTo k o (i+1)).map Qan);rw[skip ah];exact P⟩,L1⟩
   |false=>
   refine⟨_,a4.sees3 (o:=1) rfl,ad,i,⟨bq,rfl,bf⟩,_,(bt.lg Qy).cell (i:=3) rfl,Zed.any,(Zes aa pa al ac o.length pc c.af (Qan o) (ha.lg Qy) (ax.lg Qy) bl O1).go λ _=>?_⟩;rw[Bk.aft_all az hx];cases ht:(Jd b.A i).all λ k=>o.contains k with
   |false=>
    have ah:b.can o i=false:=by unfold Bk.can;rw[z,ht];rfl
    refine⟨a6,?_⟩
    conv=>whnf
    exact⟨rfl,(i+1,.slice oa ol oc),T1,⟨Q,by show i+1<=h.cl;omega,cells,G,by show Xr _ _ ((b.ordsTo k o (i+1)).map Qan);rw[skip ah];exact P⟩,L1⟩
   |true=>
   have ah:b.can o i=true:=by unfold Bk.can;rw[z,ht];rfl
   rw[ah,if_pos rfl]at ae
   conv=>whnf
   intro bz ay
   refine YM (mu:=[]) (ops:=PN Tryz.f71 8) (id:=8) ay [2,4,6,7,8] [[0,1,3,5,2,4,6,7,8],[0,1,3,5,2,6,4,7,8],[0,1,3,5,6,2,4,7,8]] [9,10] Zb8 Zfc Qd K1 K1 K1 K1 K1
    (λ f' ba U'=>ba=[]/\∃a c L,XH f' [(1,.slice pa o.length pc),(2,.pb B),(6,.int .i64 i),(38,.slice oa ol oc),(46,.slice a L.length c)]/\Src U'.frz a L/\(∀ad,a=some ad->ad.spot=none)/\Xr U' L ((b.ords k (o++[i])).map Qan)/\V.le U') ?_ ?_
   .intro l hl;simp only[Zb8,mem_cons,not_mem_nil,or_false]at hl;rcases hl with rfl|rfl|rfl
    .refine⟨_,⟨rfl,am.rd⟩,?_⟩;refine⟨λ v U'=>Qcj V [] v U',λ v Y x2 z w=>z.le w,λ v U' z=>z.2.1,λ U' E=>?_,λ v K=>?_⟩
     .conv=>whnf
      intro p hp;exact⟨_,.refl _,_,.refl _,.new E⟩
     obtain⟨_,⟨an,au,ap,rfl⟩,-,-⟩:=K;refine⟨λ v U'=>Qcj V (Qan o) v U',λ v Y x2 z w=>z.le w,λ v U' z=>z.2.1,λ U' E=>?_,λ v K=>?_⟩
     .conv=>whnf
      refine Wv (v:=.slice an au ap) (cs:=([]:List Int).map λ n=>.int .i64 n) (new:=(Qan o).map λ n=>.int .i64 n) (M₀:=V.M) Hc rfl rfl E.2.2 ((ax.lg E.2.1.frz2).lg Qy).src' (by simp[Qan]) (by simp[Value.single]) (by simp[Qan];omega) λ v' M' F _=>?_;obtain⟨ta,tl,tc,rfl,-⟩:=Acc.src (U:={ U' with M:=M' }) F;exact⟨_,.refl _,⟨⟨_,_,_,rfl⟩,⟨E.2.1.imm,Zz3,E.2.1.tok⟩,by simpa using F⟩⟩
     obtain⟨_,⟨ao,av,aq,rfl⟩,-,-⟩:=K;refine⟨λ v U'=>(∃p,v=.slice (some ⟨p,0,none⟩) 1 1/\Qcj V (Qan o) (.slice ao av aq) U'/\Zo U' p #[.int .i64 i]),λ v Y x2 z w=>let ⟨p,e,N,X⟩:=z;⟨p,e,N.le w,X.le w⟩,λ v U' z=>let ⟨_,_,N,_⟩:=z;N.2.1,λ U' E=>?_,λ v K=>?_⟩
     .conv=>whnf
      intro p hp;exact Zm hp λ Y k1 k2=>⟨Y,.refl _,p,rfl,E.le k1,k2⟩
     obtain⟨_,W,rfl,-,-⟩:=K;refine⟨λ v U'=>Qcj V (Qan (o++[i])) v U'/\Zo U' W #[.int .i64 i],λ v Y x2 z w=>⟨z.1.le w,z.2.le w⟩,λ v U' z=>z.1.2.1,λ U' E=>?_,λ v K=>?_⟩
     .obtain⟨p',e,E,hb44⟩:=E;obtain rfl:W=p':=by simpa using e
      conv=>whnf
      refine Wv (v:=.slice ao av aq) (cs:=(Qan o:List Int).map λ n=>.int .i64 n) (new:=[.int .i64 (i:Int)]) (M₀:=V.M) Hc rfl rfl E.2.2 (.inr ⟨_,rfl,hb44.rd⟩) (rfl) (by simp[Value.single]) (by simp[Qan];omega) λ v' M' F _=>?_;obtain⟨ta,tl,tc,rfl,-⟩:=Acc.src (U:={ U' with M:=M' }) F;exact⟨_,.refl _,⟨⟨⟨_,_,_,rfl⟩,⟨E.2.1.imm,Zz3,E.2.1.tok⟩,by simpa[Qan,map_append]using F⟩,hb44⟩⟩
     obtain⟨_,⟨⟨a8,bg,a9,rfl⟩,-,-⟩,-⟩:=K;refine⟨λ v U'=>Zem U' v ((b.ords k (o++[i])).map Qan)/\V.le U',λ v Y x2⟨⟨a,c,cells,e,N,X,h3⟩,h4⟩w=>⟨⟨a,c,cells,e,N.lgs w.lg.frz2,X,h3.lg w.lg.frz2⟩,h4.trans w⟩,λ v U' z=>Qy.trans z.2.lg,λ U' E=>?_,λ v K=>?_⟩
     .obtain⟨E,-⟩:=E;refine⟨Qfx.any,(Qcj.give (xs:=λ v=>#[h.v,v]) E λ U4 ga ag e w H=>?_).mono λ v U' K _=>⟨U',.refl _,K⟩⟩;rw[e];have:=ih (o++[i]) U4 (a1.lg w.lg.frz2) ga ag (by rw[length_map]at H;exact H) (by rw[length_append,length_singleton];omega);rw[show(Qan (o++[i])).length=(o++[i]).length by simp[Qan]];exact this.mono λ v U'⟨N,X⟩=>⟨N,w.trans X⟩
     obtain⟨_,⟨Z,ab,cells,rfl,-⟩,-⟩:=K
     conv=>whnf
     rintro U'⟨⟨a,c,L,e,N,X,h3⟩,h4⟩;obtain⟨rfl,e2,rfl⟩:Z=a/\cells.length=L.length/\ab=c:=by simpa using e
     refine⟨rfl,Z,ab,L,⟨rfl,rfl,rfl,rfl,?_,trivial⟩,N,X,h3,h4⟩;rw[<- e2];rfl
    .refine⟨_,⟨rfl,am.rd⟩,?_⟩;refine⟨λ v U'=>Qcj V [] v U',λ v Y x2 z w=>z.le w,λ v U' z=>z.2.1,λ U' E=>?_,λ v K=>?_⟩
     .conv=>whnf
      intro p hp;exact⟨_,.refl _,_,.refl _,.new E⟩
     obtain⟨_,⟨an,au,ap,rfl⟩,-,-⟩:=K;refine⟨λ v U'=>(∃p,v=.slice (some ⟨p,0,none⟩) 1 1/\Qcj V [] (.slice an au ap) U'/\Zo U' p #[.int .i64 i]),λ v Y x2 z w=>let ⟨p,e,N,X⟩:=z;⟨p,e,N.le w,X.le w⟩,λ v U' z=>let ⟨_,_,N,_⟩:=z;N.2.1,λ U' E=>?_,λ v K=>?_⟩
     .conv=>whnf
      intro p hp;exact Zm hp λ Y k1 k2=>⟨Y,.refl _,p,rfl,E.le k1,k2⟩
     obtain⟨_,W,rfl,-,-⟩:=K;refine⟨λ v U'=>Qcj V (Qan o) v U'/\Zo U' W #[.int .i64 i],λ v Y x2 z w=>⟨z.1.le w,z.2.le w⟩,λ v U' z=>z.1.2.1,λ U' E=>?_,λ v K=>?_⟩
     .obtain⟨p',e,E,hb44⟩:=E;obtain rfl:W=p':=by simpa using e
      conv=>whnf
      refine Wv (v:=.slice an au ap) (cs:=([]:List Int).map λ n=>.int .i64 n) (new:=(Qan o).map λ n=>.int .i64 n) (M₀:=V.M) Hc rfl rfl E.2.2 ((ax.lg E.2.1.frz2).lg Qy).src' (by simp[Qan]) (by simp[Value.single]) (by simp[Qan];omega) λ v' M' F _=>?_;obtain⟨ta,tl,tc,rfl,-⟩:=Acc.src (U:={ U' with M:=M' }) F;exact⟨_,.refl _,⟨⟨⟨_,_,_,rfl⟩,⟨E.2.1.imm,Zz3,E.2.1.tok⟩,by simpa using F⟩,hb44⟩⟩
     obtain⟨_,⟨⟨ao,av,aq,rfl⟩,-,-⟩,-⟩:=K;refine⟨λ v U'=>Qcj V (Qan (o++[i])) v U'/\Zo U' W #[.int .i64 i],λ v Y x2 z w=>⟨z.1.le w,z.2.le w⟩,λ v U' z=>z.1.2.1,λ U' E=>?_,λ v K=>?_⟩
     .obtain⟨E,hb44⟩:=E
      conv=>whnf
      refine Wv (v:=.slice ao av aq) (cs:=(Qan o:List Int).map λ n=>.int .i64 n) (new:=[.int .i64 (i:Int)]) (M₀:=V.M) Hc rfl rfl E.2.2 (.inr ⟨_,rfl,hb44.rd⟩) (rfl) (by simp[Value.single]) (by simp[Qan];omega) λ v' M' F _=>?_;obtain⟨ta,tl,tc,rfl,-⟩:=Acc.src (U:={ U' with M:=M' }) F;exact⟨_,.refl _,⟨⟨⟨_,_,_,rfl⟩,⟨E.2.1.imm,Zz3,E.2.1.tok⟩,by simpa[Qan,map_append]using F⟩,hb44⟩⟩
     obtain⟨_,⟨⟨a8,bg,a9,rfl⟩,-,-⟩,-⟩:=K;refine⟨λ v U'=>Zem U' v ((b.ords k (o++[i])).map Qan)/\V.le U',λ v Y x2⟨⟨a,c,cells,e,N,X,h3⟩,h4⟩w=>⟨⟨a,c,cells,e,N.lgs w.lg.frz2,X,h3.lg w.lg.frz2⟩,h4.trans w⟩,λ v U' z=>Qy.trans z.2.lg,λ U' E=>?_,λ v K=>?_⟩
     .obtain⟨E,-⟩:=E;refine⟨Qfx.any,(Qcj.give (xs:=λ v=>#[h.v,v]) E λ U4 ga ag e w H=>?_).mono λ v U' K _=>⟨U',.refl _,K⟩⟩;rw[e];have:=ih (o++[i]) U4 (a1.lg w.lg.frz2) ga ag (by rw[length_map]at H;exact H) (by rw[length_append,length_singleton];omega);rw[show(Qan (o++[i])).length=(o++[i]).length by simp[Qan]];exact this.mono λ v U'⟨N,X⟩=>⟨N,w.trans X⟩
     obtain⟨_,⟨Z,ab,cells,rfl,-⟩,-⟩:=K
     conv=>whnf
     rintro U'⟨⟨a,c,L,e,N,X,h3⟩,h4⟩;obtain⟨rfl,e2,rfl⟩:Z=a/\cells.length=L.length/\ab=c:=by simpa using e
     refine⟨rfl,Z,ab,L,⟨rfl,rfl,rfl,rfl,?_,trivial⟩,N,X,h3,h4⟩;rw[<- e2];rfl
    .refine⟨_,⟨rfl,am.rd⟩,?_⟩;refine⟨λ v U'=>(∃p,v=.slice (some ⟨p,0,none⟩) 1 1/\V.le U'/\Zo U' p #[.int .i64 i]),λ v Y x2 z w=>let ⟨p,e,N,X⟩:=z;⟨p,e,N.trans w,X.le w⟩,λ v U' z=>let ⟨_,_,N,_⟩:=z;Qy.trans N.lg,λ U' E=>?_,λ v K=>?_⟩
     .conv=>whnf
      intro p hp;exact Zm hp λ Y k1 k2=>⟨Y,.refl _,p,rfl,E.trans k1,k2⟩
     obtain⟨_,W,rfl,-,-⟩:=K;refine⟨λ v U'=>Qcj V [] v U'/\Zo U' W #[.int .i64 i],λ v Y x2 z w=>⟨z.1.le w,z.2.le w⟩,λ v U' z=>z.1.2.1,λ U' E=>?_,λ v K=>?_⟩
     .obtain⟨p',e,E,hb44⟩:=E;obtain rfl:W=p':=by simpa using e
      conv=>whnf
      intro p hp;exact⟨_,.refl _,_,.refl _,⟨.new E,hb44.lg (Z6 p _)⟩⟩
     obtain⟨_,⟨⟨an,au,ap,rfl⟩,-,-⟩,-⟩:=K;refine⟨λ v U'=>Qcj V (Qan o) v U'/\Zo U' W #[.int .i64 i],λ v Y x2 z w=>⟨z.1.le w,z.2.le w⟩,λ v U' z=>z.1.2.1,λ U' E=>?_,λ v K=>?_⟩
     .obtain⟨E,hb44⟩:=E
      conv=>whnf
      refine Wv (v:=.slice an au ap) (cs:=([]:List Int).map λ n=>.int .i64 n) (new:=(Qan o).map λ n=>.int .i64 n) (M₀:=V.M) Hc rfl rfl E.2.2 ((ax.lg E.2.1.frz2).lg Qy).src' (by simp[Qan]) (by simp[Value.single]) (by simp[Qan];omega) λ v' M' F _=>?_;obtain⟨ta,tl,tc,rfl,-⟩:=Acc.src (U:={ U' with M:=M' }) F;exact⟨_,.refl _,⟨⟨⟨_,_,_,rfl⟩,⟨E.2.1.imm,Zz3,E.2.1.tok⟩,by simpa using F⟩,hb44⟩⟩
     obtain⟨_,⟨⟨ao,av,aq,rfl⟩,-,-⟩,-⟩:=K;refine⟨λ v U'=>Qcj V (Qan (o++[i])) v U'/\Zo U' W #[.int .i64 i],λ v Y x2 z w=>⟨z.1.le w,z.2.le w⟩,λ v U' z=>z.1.2.1,λ U' E=>?_,λ v K=>?_⟩
     .obtain⟨E,hb44⟩:=E
      conv=>whnf
      refine Wv (v:=.slice ao av aq) (cs:=(Qan o:List Int).map λ n=>.int .i64 n) (new:=[.int .i64 (i:Int)]) (M₀:=V.M) Hc rfl rfl E.2.2 (.inr ⟨_,rfl,hb44.rd⟩) (rfl) (by simp[Value.single]) (by simp[Qan];omega) λ v' M' F _=>?_;obtain⟨ta,tl,tc,rfl,-⟩:=Acc.src (U:={ U' with M:=M' }) F;exact⟨_,.refl _,⟨⟨⟨_,_,_,rfl⟩,⟨E.2.1.imm,Zz3,E.2.1.tok⟩,by simpa[Qan,map_append]using F⟩,hb44⟩⟩
     obtain⟨_,⟨⟨a8,bg,a9,rfl⟩,-,-⟩,-⟩:=K;refine⟨λ v U'=>Zem U' v ((b.ords k (o++[i])).map Qan)/\V.le U',λ v Y x2⟨⟨a,c,cells,e,N,X,h3⟩,h4⟩w=>⟨⟨a,c,cells,e,N.lgs w.lg.frz2,X,h3.lg w.lg.frz2⟩,h4.trans w⟩,λ v U' z=>Qy.trans z.2.lg,λ U' E=>?_,λ v K=>?_⟩
     .obtain⟨E,-⟩:=E;refine⟨Qfx.any,(Qcj.give (xs:=λ v=>#[h.v,v]) E λ U4 ga ag e w H=>?_).mono λ v U' K _=>⟨U',.refl _,K⟩⟩;rw[e];have:=ih (o++[i]) U4 (a1.lg w.lg.frz2) ga ag (by rw[length_map]at H;exact H) (by rw[length_append,length_singleton];omega);rw[show(Qan (o++[i])).length=(o++[i]).length by simp[Qan]];exact this.mono λ v U'⟨N,X⟩=>⟨N,w.trans X⟩
     obtain⟨_,⟨Z,ab,cells,rfl,-⟩,-⟩:=K
     conv=>whnf
     rintro U'⟨⟨a,c,L,e,N,X,h3⟩,h4⟩;obtain⟨rfl,e2,rfl⟩:Z=a/\cells.length=L.length/\ab=c:=by simpa using e
     refine⟨rfl,Z,ab,L,⟨rfl,rfl,rfl,rfl,?_,trivial⟩,N,X,h3,h4⟩;rw[<- e2];rfl
   rintro f' ba U4⟨rfl,Z,ab,L,bd,ai,bx,ak,w⟩;rw[<- bd.ovr];clear bd;have b2:=Bk.ordsTo_len az (k:=k) O1 o (m:=i) O1;have br:=Bk.ordsTo_len az (k:=k) O1 o (m:=i+1) O1;have bo:=P.1;have bp:=ak.1;rw[length_map]at bo bp;rw[ae,length_append]at br
   conv=>whnf
   refine Wv (v:=.slice oa ol oc) (cs:=cells) (new:=L) (M₀:=U.M) Fu rfl rfl (by rw[w.own];exact G) (ai.lgs Qy) (by rw[Nat.mul_one]) ak.single O1 λ v' M' F _=>?_;obtain⟨ta,tl,tc,rfl,-⟩:=Acc.src (U:={ U4 with M:=M' }) F
   conv=>whnf
   intro a' a2;refine⟨by rw[a2.size,ay.size],_,a2.get,?_⟩;rw[a2.ds];clear a2 ay;refine⟨a6,?_⟩
   conv=>whnf
   have a5:=Q.trans w.lg;exact⟨rfl,(i+1,.slice ta tl tc),T1,⟨⟨a5.imm,Zz3,a5.tok⟩,by show i+1<=h.cl;omega,cells++L,F,by show Xr _ _ ((b.ordsTo k o (i+1)).map Qan);rw[ae,map_append];exact((P.lg w.lg.frz2).app ak).lg ⟨λ _ _ h=>h,⟨[],rfl⟩,rfl⟩⟩,L1⟩
  refine a0.sep λ v U' hs⟨cells,G,P,hI,ht⟩=>?_;obtain⟨U1,k1,k2,a,len,cap,rfl,hl,ai,a3,-⟩:=Acc.freeze (U:={ U' with M:=U.M }) hs G (λ _ _ h=>h) rfl;have hz:U'.frz.lg U1.frz:=⟨k2.imm,⟨[],rfl⟩,k2.tok⟩;exact⟨U1,k1,⟨a,cap,cells,by rw[hl,Nat.mul_one],ai,a3,P.lg hz⟩,⟨λ x u hx=>k2.imm x u (hI x u hx),k2.own,k2.tok.trans ht⟩⟩
def Zd1(h:BH)(b:Bk)(hb:Zu U.frz h b)(aj:b.cs.length<=5):Qb S 32 #[h.v] (λ v U'=>(∃a c,v=.slice a b.cans.length c/\Zd U'.frz a b.cans.length 2 b.cans (λ x vs=>vs=encII x)/\b.cans.length<=c)/\U.le U') U:=by
 have au:=hb.cs.1
 have ae:Qb S 32 #[h.v] (λ v U'=>Acc 62 2 v (b.cans.flatMap encII) U'.M U.M/\(∀x o,U.I x=some o->U'.I x=some o)/\U'.tok=U.tok) U:=by
  refine Qb.of (args:=[_]) Ze2 Qd S1 ?_
  repeat refine⟨rfl,?_⟩
  conv=>whnf
  intro B U1 H hB;have hB:=Zz4 h hB;refine⟨Nat×Value,λ y=>[(1,.pb B),(3,y.2),(4,.int .i64 y.1)],λ y U'=>U1.frz.lg U'/\Acc 62 2 y.2 ((b.cansTo y.1).flatMap encII) U'.M U.M/\y.1<=h.cl,λ y=>h.cl-y.1,(0,.nl),T1,⟨⟨λ _ _ h=>h,Zz3,rfl⟩,by rw[H.own];exact .nil,O1⟩,?_⟩;rintro⟨i,v⟩f U2⟨K,w,hi⟩;simp only at w hi;obtain⟨sa,sl,sc,rfl,ay,-⟩:=Acc.src (U:=U2) w;have am:Je ((i:Int)+1):=I1
  refine⟨_,(hB.imI K.imm).sees3 (o:=1) rfl,?_⟩
  repeat refine⟨rfl,?_⟩
  conv=>whnf
  apply Qe<;>intro N
  .have hlt:i<h.cl:=by simpa using N
   refine⟨Nat×Value,λ y=>[(1,.pb B),(3,y.2),(4,.int .i64 i),(5,.int .i64 y.1)],λ y U'=>U1.frz.lg U'/\Acc 62 2 y.2 ((b.cansTo i++b.canI i y.1).flatMap encII) U'.M U.M/\y.1<=h.cl,λ y=>h.cl-y.1,(0,.slice sa sl sc),T1,⟨K,by simpa[Bk.canI]using w,O1⟩,?_⟩;rintro⟨k,v⟩f U4⟨z,w,hk⟩;simp only at w hk;obtain⟨ua,ul,uc,rfl,az,-⟩:=Acc.src (U:=U4) w;have G:Je ((k:Int)+1):=I1
   have Y:U.frz.lg U4.frz:=H.lg.frz2.trans z.frz2;obtain⟨ad,c,ga,gl,gc,aa,al,ac,hx,ak,aq,an,-,-,ha,ai,ap⟩:=(hb.lg Y).case hlt;have V:=Bk.cas_at hx;have E:=b.canI_succ i k;rw[V]at E;have av:=b.cansTo_len i;have aw:=b.canI_len i k;have ax:i*b.cs.length<=5*5:=Nat.mul_le_mul O1 aj;have T:=hB.imI z.imm
   have skip:(k != i&&!c.af.contains (k:Int))=false->Acc 62 2 (.slice ua ul uc) ((b.cansTo i++b.canI i (k+1)).flatMap encII) U4.M U.M:=λ e=>by
    rw[E,e];simpa using w
   refine⟨_,T.sees3 (o:=1) rfl,?_⟩
   repeat refine⟨rfl,?_⟩
   conv=>whnf
   apply Qe<;>intro N
   .have hkt:k<h.cl:=by simpa using N
    repeat refine⟨rfl,?_⟩
    conv=>whnf
    apply Jb<;>intro N
    .have hne:(k != i)=true:=by simp at N ⊢;omega
     refine⟨_,T.sees3 (o:=1) rfl,ad,i,⟨ak,rfl,hlt⟩,_,(an.lg Qy).cell (i:=3) rfl,Qop.any,(Qfj aa al ac c.af (ha.lg Qy) ai (k:Int)).go λ _=>?_⟩;cases W:c.af.contains (k:Int)with
     |true=>
      repeat refine⟨rfl,?_⟩
      refine⟨G,?_⟩
      conv=>whnf
      exact⟨rfl,(k+1,.slice ua ul uc),T1,⟨z,skip (by rw[W];simp),by show k+1<=h.cl;omega⟩,L1⟩
     |false=>
      rw[W,hne]at E
      conv=>whnf
      intro ag X;refine Zm X λ U5 P F=>?_;have F:Zo U5 ag (encII ((i:Int),(k:Int))).toArray:=F
      conv=>whnf
      refine Wv (v:=.slice ua ul uc) (cs:=(b.cansTo i++b.canI i k).flatMap encII) (new:=encII ((i:Int),(k:Int))) (M₀:=U.M) VA rfl rfl (by rw[P.own];exact w) (.inr ⟨_,rfl,F.rd⟩) rfl (by simp[encII,Value.single]) (by
       rw[Q6 (f:=encII) (n:=2) (λ _=>rfl)];simp[encII];omega) λ v' M' ah _=>?_
      have L:Acc 62 2 v' ((b.cansTo i++b.canI i (k+1)).flatMap encII) M' U.M:=by
       rw[E];simpa[flatMap_append]using ah
      obtain⟨ta,tl,tc,rfl,-,-⟩:=Acc.src (U:={ U5 with M:=M' }) L;refine⟨G,?_⟩
      conv=>whnf
      exact⟨rfl,(k+1,.slice ta tl tc),T1,⟨⟨λ x o hx=>P.imm x o (z.imm x o hx),Zz3,P.tok.trans z.tok⟩,L,by show k+1<=h.cl;omega⟩,L1⟩
    .have hne:(k != i)=false:=by simp at N ⊢;omega
     repeat refine⟨rfl,?_⟩
     refine⟨G,?_⟩
     conv=>whnf
     exact⟨rfl,(k+1,.slice ua ul uc),T1,⟨z,skip (by rw[hne];simp),by show k+1<=h.cl;omega⟩,L1⟩
   .have hge:k=b.cs.length:=by simp at N;omega
    subst hge;refine⟨am,?_⟩
    conv=>whnf
    exact⟨rfl,(i+1,.slice ua ul uc),T1,⟨z,by rw[b.cansTo_succ];exact w,by show i+1<=h.cl;omega⟩,L1⟩
  .have hge:i=b.cs.length:=by simp at N;omega
   subst hge
   repeat refine⟨rfl,?_⟩
   conv=>whnf
   exact⟨w,λ x o hx=>K.imm x o (H.imm x o hx),K.tok.trans H.tok⟩
 refine ae.sep λ v U' hs⟨ha,hI,ht⟩=>?_;obtain⟨U'',k1,k2,a,len,cap,rfl,hl,ab,ao,_⟩:=ha.freeze hs hI ht;have Z:b.cans.length=len:=by have e:=(Q6 (f:=encII) (n:=2) (λ _=>rfl) b.cans).symm.trans hl;omega
 subst Z;have Q:=ha.room;exact⟨U'',k1,⟨a,cap,rfl,HH (enc:=encII) (n:=2) (λ _=>rfl) ab ao D1,Q⟩,k2⟩
end
abbrev PrL:=List (Int×Int)
variable{y:List PrL}
def Qlb(l:PrL)(m k:Nat):List PrL:=(range k).flatMap λ i=>(parts (l.drop (i+1)) m).map ((l.getD i (0,0))::·)
def Zc8(l:PrL)(m k:Nat):Qlb l m (k+1)=Qlb l m k++(parts (l.drop (k+1)) m).map ((l.getD k (0,0))::·):=by
 unfold Qlb;rw[range_succ,flatMap_append];simp
def Qxm:∀(l:PrL)(m:Nat),Qlb l m l.length=parts l (m+1)
 |[],m=>rfl
 |a::l,m=>by
  rw[show parts (a::l) (m+1)=(parts l m).map (a::·)++parts l (m+1) from rfl,<- Qxm l m];unfold Qlb;rw[length_cons,range_succ_eq_map,flatMap_cons,flatMap_map];rfl
def Qta:∀(l:PrL)(m:Nat),(parts l m).length<=2^l.length
 |l,0=>by rw[Pb];exact Nat.one_le_two_pow
 |[],m+1=>by simp[parts]
 |a::l,m+1=>by
  have e:=Qta l m;have f:=Qta l (m+1);rw[show parts (a::l) (m+1)=(parts l m).map (a::·)++parts l (m+1) from rfl,length_append,length_map,length_cons,Nat.pow_succ];omega
def Zf7{l:PrL}{m:Nat}:∀{k:Nat},k<=l.length->(Qlb l m k).length<=(parts l (m+1)).length:=by
 intro k f;rw[<- Qxm];obtain⟨d,e⟩:=Nat.exists_eq_add_of_le f;rw[e];clear e f
 induction d with
 |zero=>exact Nat.le_refl _
 |succ d w=>rw[<- Nat.add_assoc,Zc8,length_append];omega
abbrev Qbb(U:Qa T)(a:Option Addr)(l:PrL):Prop:=Zd U a l.length 2 l λ x vs=>vs=encII x
def Zdl(U:Qa T)(cs:List Value)(e:List PrL):Prop:=cs.length=e.length/\∀(i:Nat)(l:PrL),e[i]?=some l->∃a c,cs[i]?=some (Value.slice a l.length c)/\Qbb U.frz a l
def Qbb.lg{a:Option Addr}{l:PrL}(h:Qbb U a l)(k:U.lg U'):Qbb U' a l:=Zd.lg (R':=λ x vs=>vs=encII x) h k λ _ _ h=>h
def Zdl.lg{cs:List Value}{f:List PrL}(h:Zdl U cs f)(k:U.frz.lg U'.frz):Zdl U' cs f:=⟨h.1,λ i l w=>let ⟨a,c,e,h⟩:=h.2 i l w;⟨a,c,e,Qbb.lg h k⟩⟩
def Zdl.snoc{l:PrL}(h:Zdl U cs y)(F:Qbb U.frz a l):Zdl U (cs++[Value.slice a l.length b]) (y++[l]):=by
 refine⟨by simp[h.1],λ i x f=>?_⟩;by_cases z:i<y.length
 .rw[getElem?_append_left z]at f;obtain⟨a',B,e,E⟩:=h.2 i x f;exact⟨a',B,by rw[getElem?_append_left (by rw[h.1];exact z)];exact e,E⟩
 .have hi':i=y.length:=by
   have:=(List.getElem?_eq_some_iff.1 f).1;simp at this;omega
  subst hi';rw[getElem?_append_right O1]at f;obtain rfl:l=x:=by simpa using f
  exact⟨a,b,by rw[getElem?_append_right (by rw[h.1];omega),h.1];simp,F⟩
def Zhj(U:Qa T)(v:Value)(f:List PrL):Prop:=∃a c cells,v=.slice a cells.length c/\Src U.frz a cells/\(∀e,a=some e->e.spot=none)/\Zdl U cells f
section
attribute [local irreducible] Qb Zr W5
def Zfz:Xf prog 74 26 1:=.of K1
def Zet:∀(m:Nat)(l:PrL)(U:Qa T)(a:Option Addr)(c:Nat),m<=5->l.length<=20->l.length<=c->Qbb U.frz a l ->
  Qb S 33 #[.slice a l.length c,.int .i64 m] (λ v U'=>Zhj U' v (TM.parts l m)/\U.le U') U:=by
 intro m
 induction m with
 |zero=>
  intro l U a c _ aj ab hl;refine Qb.of (args:=[_,_]) Qz7 Qd S1 ?_
  repeat refine⟨rfl,?_⟩
  conv=>whnf
  intro H V;refine Zm V λ U1 ax hb=>?_;have hb:Zo U1 H #[.nl]:=hb
  repeat refine⟨rfl,?_⟩
  conv=>whnf
  rw[Pb];refine⟨⟨some ⟨H,0,none⟩,1,[.nl],rfl,.inr ⟨_,rfl,(show Zo U1.frz H _ from hb).rd⟩,(λ ad e=>by cases e;rfl),rfl,λ i x L=>?_⟩,ax⟩
  obtain⟨rfl,rfl⟩:i=0/\x=[]:=by
   cases i with
   |zero=>exact⟨rfl,by simpa using L.symm⟩
   |succ i=>simp at L
  exact⟨none,0,rfl,rfl,λ i x L=>by simp at L⟩
 |succ m ih=>
  intro l U a c hm aj ab hl
  have ap:Qb S 33 #[.slice a l.length c,.int .i64 ((m+1:Nat):Int)] (λ v U'=>∃cells,Acc 26 1 v cells U'.M U.M/\Zdl U' cells (TM.parts l (m+1))/\(∀x ox,U.I x=some ox->U'.I x=some ox)/\U'.tok=U.tok) U:=by
   refine Qb.of (args:=[_,_]) Qz7 Qd S1 ?_
   repeat refine⟨rfl,?_⟩
   refine⟨Nat×Value,λ y=>[(0,.slice a l.length c),(1,.int .i64 ((m+1:Nat):Int)),(5,y.2),(6,.int .i64 y.1)],λ y U'=>U.frz.lg U'/\y.1<=l.length/\∃cells,Acc 26 1 y.2 cells U'.M U.M/\Zdl U' cells (Qlb l m y.1),λ y=>l.length-y.1,(0,.nl),T1,⟨Qy,O1,[],.nil,rfl,by simp[Qlb]⟩,?_⟩;rintro⟨i,v⟩f U3⟨G,hi,cells,B,w⟩;simp only at B w hi;obtain⟨oa,ol,oc,rfl,bc,-⟩:=B.src;have ah:Je ((i:Int)+1):=I1
   have ae:Qbb U3.frz a l:=Qbb.lg hl G.frz2;have K:=Zc8 l m i
   repeat refine⟨rfl,?_⟩
   conv=>whnf
   apply Qe<;>intro hc
   rotate_left
   .have hge:i=l.length:=by simp at hc;omega
    rw[hge,Qxm]at w
    repeat refine⟨rfl,?_⟩
    conv=>whnf
    exact⟨cells,B,w,G.imm,G.tok⟩
   have ac:i<l.length:=by simpa using hc
   have Z:=Zf7 (l:=l) (m:=m) (k:=i+1) ac;have a2:=Qta l (m+1);have a3:2^l.length<=2^20:=Nat.pow_le_pow_right O1 aj;have a4:(2:Nat)^20=1048576:=D1
   rw[K,length_append,length_map]at Z;refine⟨ah,i+1,l.length,⟨O1,rfl,O1,ab⟩,?_⟩
   have hD:Qbb U3.frz (if c=i+1 then a else a.map (·.add ((i+1)*2))) (l.drop (i+1)):=by
    have:=ae.drop ab (j:=i+1) O1
    rwa [show l.length-(i+1)=(l.drop (i+1)).length by simp]at this
   generalize(if c=i+1 then a else a.map (·.add ((i+1)*2)))=da at hD ⊢;rw[show l.length-(i+1)=(l.drop (i+1)).length by simp];have em:((m+1:Nat):Int)-1=(m:Int):=O1
   refine⟨I1,?_⟩;rw[em];refine⟨Qz7.any,(ih (l.drop (i+1)) U3 da (c-(i+1)) O1 S3 S3 hD).mono ?_⟩;rintro _ U4⟨⟨ra,rc,z,rfl,W,an,N⟩,P⟩-;generalize hP:TM.parts (l.drop (i+1)) m=ps at N K Z;have ay:=N.1;refine⟨Nat×Value,λ y=>[(0,.slice a l.length c),(1,.int .i64 ((m+1:Nat):Int)),(5,y.2),(6,.int .i64 i),(7,.slice ra z.length rc),(8,.int .i64 y.1)],λ y U'=>U4.frz.lg U'/\y.1<=z.length/\∃cs,Acc 26 1 y.2 cs U'.M U.M/\Zdl U' cs (Qlb l m i++(ps.take y.1).map ((l.getD i (0,0))::·)),λ y=>z.length-y.1,(0,.slice oa ol oc),T1,⟨Qy,O1,cells,by rw[P.own];exact B,by simpa using w.lg P.lg.frz2⟩,?_⟩;clear B w;rintro⟨k,v⟩f U5⟨E,hk,cs,B,w⟩;simp only at B w hk;obtain⟨ta,tl,tc,rfl,bd,-⟩:=B.src;have ai:Je ((k:Int)+1):=I1
   repeat refine⟨rfl,?_⟩
   conv=>whnf
   apply Qe<;>intro hc
   rotate_left
   .have hge:k=z.length:=by simp at hc;omega
    rw[hge,ay,take_length,<- K]at w;refine⟨ah,?_⟩
    conv=>whnf
    exact⟨rfl,(i+1,.slice ta tl tc),T1,⟨⟨λ x ox L=>E.imm x ox (P.imm x ox (G.imm x ox L)),Zz3,E.tok.trans (P.tok.trans G.tok)⟩,by show i+1<=l.length;omega,cs,B,w⟩,L1⟩
   have al:k<z.length:=by simpa using hc
   obtain⟨x,L⟩:∃x,ps[k]?=some x:=⟨_,getElem?_eq_getElem O1⟩;obtain⟨xa,xc,a6,a5⟩:=N.2 k x L;have au:U3.frz.lg U5.frz:=P.lg.frz2.trans E.frz2;obtain⟨ad,y,_,hy,ea,a9,rfl,-,a1⟩:=Zd.at ae ac;have ao:l.getD i (0,0)=y:=by simp[getD_eq_getElem?_getD,hy]
   rw[ao]at w;have a0:(ps.take (k+1)).map (y::·)=(ps.take k).map (y::·)++[y::x]:=by rw[take_add_one,L,map_append];rfl
   obtain⟨X,e',hr⟩:∃X,ra=some X/\Ju U4.frz X z:=by
    rcases W with⟨_,hn⟩|h
    .subst hn;simp at al
    .exact h
   have be:x.length<=5:=by
    have:=(HG.1 (by rw[hP];exact mem_of_getElem? L:x∈TM.parts (l.drop (i+1)) m)).2;omega
   refine⟨ad,i,⟨ea,rfl,ac⟩,_,⟨rfl,(a1.lg au).lg Qy⟩,X,k,⟨e',rfl,al⟩,.slice xa x.length xc,by rw[Nat.mul_one];exact(hr k _ a6).lg E,?_⟩;refine⟨λ v U'=>∃H,v=.slice (some ⟨H,0,none⟩) 1 1/\Zo U' H (encII y).toArray,λ v y1 y2⟨H,e,hh⟩F=>⟨H,e,hh.le F⟩,λ U' F _=>?_,λ v hv=>?_⟩
   .conv=>whnf
    intro H V;exact Zm V λ U9 Q V=>⟨_,.refl _,⟨H,rfl,V⟩,Q⟩
   obtain⟨_,-,-,H,rfl,-⟩:=hv;refine⟨λ v U'=>∃Y nc n,v=.slice Y n nc/\n=(y::x).length/\Qbb U'.frz Y (y::x),λ v y1 y2⟨Y,nc,n,e,hn,hh⟩F=>⟨Y,nc,n,e,hn,Qbb.lg hh F.lg.frz2⟩,λ U' F hC=>?_,λ v hv=>?_⟩
   .obtain⟨-,bn',e,hB⟩:=hC;obtain rfl:H=bn':=by simpa using e
    have aw:Qbb U'.frz xa x:=Qbb.lg a5 (E.frz2.trans F.lg.frz2)
    conv=>whnf
    refine Em (sa:=some ⟨H,0,none⟩) (sl:=1) (cs:=encII y) (new:=x.flatMap encII) VA rfl rfl (.inr ⟨_,rfl,hB.rd⟩) rfl (I9 (enc:=encII) (n:=2) (λ _=>rfl) (Qbb.lg aw Qy) D1) (Q6 (f:=encII) (n:=2) (λ _=>rfl) x) (by rw[Q6 (f:=encII) (n:=2) (λ _=>rfl) x];simp[encII];omega) (λ am=>?_) (λ bb b c cap hf h1 h2 h3=>?_)
    .obtain rfl:x=[]:=by
      have:=Q6 (f:=encII) (n:=2) (λ _=>rfl) x;rw[am]at this;exact length_eq_zero_iff.1 (by simp at this;omega)
     refine⟨U',.refl _,⟨_,_,_,rfl,rfl,HH (enc:=encII) (n:=2) (l:=[y]) (λ _=>rfl) (.inr ⟨_,rfl,(show Zo U'.frz H _ from hB).rd⟩) (λ ad e=>by cases e;rfl) D1⟩,.refl _⟩
    .exact Zm hf λ U9 Q hb=>⟨⟨_,_,_,rfl,S3,HH (enc:=encII) (n:=2) (l:=y::x) (λ _=>rfl) (.inr ⟨_,rfl,(show Zo U9.frz b c from hb).reads (λ k v hv=>by rw[Nat.zero_add];exact h3 k v (by simpa using hv))⟩) (λ ad e=>by cases e;rfl) D1⟩,Q⟩
   obtain⟨_,-,-,Y,nc,n,rfl,az,-⟩:=hv;refine⟨λ v U'=>∃bq,v=.slice (some ⟨bq,0,none⟩) 1 1/\Zo U' bq #[.slice Y n nc],λ v y1 y2⟨H,e,hh⟩F=>⟨H,e,hh.le F⟩,λ U' F _=>?_,λ v hv=>?_⟩
   .conv=>whnf
    intro bq aa;exact Zm aa λ U9 Q aa=>⟨_,.refl _,⟨bq,rfl,aa⟩,Q⟩
   obtain⟨_,-,-,bq,rfl,-⟩:=hv
   conv=>whnf
   rintro U6 h6⟨⟨⟨-,-⟩,a7,a8,n',e2,-,hI⟩,aq,e3,av⟩;obtain⟨rfl,rfl,rfl⟩:Y=a7/\n=n'/\nc=a8:=by simpa using e2
   obtain rfl:bq=aq:=by simpa using e3
   have ak:=E.trans h6.lg;have ag:=w.1
   conv=>whnf
   refine Wv (v:=.slice ta tl tc) (cs:=cs) (new:=[.slice Y n nc]) (M₀:=U.M) Zfz rfl rfl (by rw[h6.own];exact B) (.inr ⟨_,rfl,av.rd⟩) rfl (by simp[Value.single]) (by rw[ag,length_append,length_map,length_take];simp only[length_singleton];omega) λ v' M' af _=>?_;obtain⟨ua,ul,uc,rfl,-,-⟩:=Acc.src (U:={ U6 with M:=M' }) af;refine⟨ai,rfl,(k+1,.slice ua ul uc),T1,⟨⟨ak.imm,Zz3,ak.tok⟩,by show k+1<=z.length;omega,cs++[.slice Y n nc],af,?_⟩,L1⟩;rw[ao];show Zdl _ _ (_++(ps.take (k+1)).map (y::·));rw[a0,<- append_assoc,az];exact(w.lg h6.lg.frz2).snoc hI
  refine ap.sep λ v U' hs⟨cells,B,w,hI,ht⟩=>?_;obtain⟨U'',k1,k2,a',len,cap,rfl,ba,W,an,_⟩:=Acc.freeze (U:={ U' with M:=U.M }) hs B (λ _ _ h=>h) rfl;obtain rfl:cells.length=len:=O1
  have hz:U'.frz.lg U''.frz:=⟨k2.imm,⟨[],rfl⟩,k2.tok⟩;exact⟨U'',k1,⟨a',cap,cells,rfl,W,an,w.lg hz⟩,⟨λ x u L=>k2.imm x u (hI x u L),k2.own,k2.tok.trans ht⟩⟩
end
variable{fn:FuncId}{ro:Option Nat}{mu dets:List Nat}{o:Ex->Act->Qa T->Prop}{ds:List Deferred}{U'':Qa T}{α:Type}{D:List α}{p:α->List Value->Prop}{H:Addr}{q:Cs}{d:List (List Value)}{k:List Cs}{J' g:List Q2}
section
variable{S:Sys P T}
def Zhc{c:Code}{l:List St}{a:Act}{f:Fm}(H:FR b a f ds)(I:P.follows .mixedOrders=true)(G:clean P mu b dets c=.reg l)
  (h:(∃w,U.ok w)->∃z,Q1 U z/\ZV S ro l (λ f ds U=>∀a',FR b a' f ds->o .normal a' U) f ds z):Zt S fn ro c o a U:=
 Zdn λ L=>by
  obtain⟨z,K,h⟩:=h L;refine LH K (Zt.mono (Hh (mu:=mu) (dets:=dets) (n:=λ f ds U=>∀a',FR b a' f ds->o .normal a' U) (x:=λ _ _ _ _=>False) (r:=λ _ _ _=>False) I c H (by rw[G];exact h)) ?_);rintro e a' U'⟨f',F,B,E⟩;cases e with
  |normal=>exact E a' B
  |exit i=>exact E.elim
  |ret=>exact E.elim
end
def Qs7{m:Nat}:∀{L:List (List Value)},(∀r∈L,r.length=m)->L.flatten.length=L.length*m
 |[],_=>S1
 |r::L,h=>by
  rw[flatten_cons,length_append,h r (mem_cons_self ..),Qs7 λ x e=>h x (mem_cons_of_mem _ e),length_cons,Nat.succ_mul];omega
def Zfk{m:Nat}:∀{L:List (List Value)},(∀r∈L,r.length=m)->∀{j k:Nat}{r:List Value},L[j]?=some r->k<m->L.flatten[j*m+k]?=r[k]?
 |[],_,j,k,r,e,_=>by simp at e
 |a::L,h,0,k,r,e,f=>by
  simp at e;subst e;rw[flatten_cons,Nat.zero_mul,Nat.zero_add,getElem?_append_left (by rw[h a (mem_cons_self ..)];exact f)]
 |a::L,h,j+1,k,r,e,f=>by
  simp at e;have w:=h a (mem_cons_self ..);rw[flatten_cons,getElem?_append_right (by rw[w,Nat.succ_mul];omega),w,show(j+1)*m+k-m=j*m+k by rw[Nat.succ_mul];omega];exact Zfk (λ x z=>h x (mem_cons_of_mem _ z)) e f
def HqV(w:Qa T)(R:Qa T->Prop)(b:Nat)(e:TypeId)(z:Array Value)(U':Qa T):Prop:=∃f,w.le f/\R f/\Hlr f b e z U'
def HqV.le{f:Qa T}{R:Qa T->Prop}{b:Nat}{e:TypeId}{z:Array Value}(h:HqV f R b e z U')(k:U'.le U''):HqV f R b e z U'':=let ⟨d,h1,h2,h3⟩:=h;⟨d,h1,h2,h3.le k⟩
def HqV.frz{f:Qa T}{R:Qa T->Prop}{b:Nat}{e:TypeId}{z:Array Value}(h:HqV f R b e z U'):f.frz.lg U':=let ⟨_,h1,_,h3⟩:=h;h1.lg.frz2.trans h3.frz1
def HqV.of(h:Hlr U b e c U')(B:U'.le U'')(F:JT U'')(E:m { U'' with M:=U.M }):HqV U m b e c U'':=by
 have w:=h.le B;refine⟨{ U'' with M:=U.M },⟨w.imm,rfl,w.tok⟩,E,⟨λ _ _ h=>h,w.own,rfl,?_⟩⟩;exact F (.obj b (.cells c e (0,0))) (by rw[w.own];exact mem_cons_self ..)
def Zd4{n:Nat}(G:0<n):∀{rows:List (List Value)},(∀r∈rows,r.length=n)->∀{k:Nat}{v:Value},rows.flatten[k]?=some v->∃i j r,k=i*n+j/\j<n/\rows[i]?=some r/\r[j]?=some v
 |[],_,k,v,h=>by simp at h
 |r::rows,w,k,v,h=>by
  have I:=w r S1;rw[flatten_cons]at h;by_cases F:k<n
  .rw[getElem?_append_left O1]at h;exact⟨0,k,r,O1,F,rfl,h⟩
  .rw[getElem?_append_right O1]at h;obtain⟨i,j,H,e,E,z,B⟩:=Zd4 G (λ r f=>w r (by simp[f])) h;exact⟨i+1,j,H,by rw[Nat.succ_mul];omega,E,by simpa using z,B⟩
def Q7y{n:Nat}:∀{rows:List (List Value)},(∀r∈rows,r.length=n)->∀{i j:Nat}{r:List Value},rows[i]?=some r->j<n->rows.flatten[i*n+j]?=r[j]?
 |[],_,i,j,r,h,_=>by simp at h
 |r0::rows,e,0,j,r,h,w=>by
  have z:=e r0 S1;obtain rfl:r0=r:=by simpa using h
  rw[flatten_cons,Nat.zero_mul,Nat.zero_add,getElem?_append_left O1]
 |r0::rows,e,i+1,j,r,h,w=>by
  have z:=e r0 S1;rw[flatten_cons,Nat.succ_mul,getElem?_append_right O1,show i*n+n+j-r0.length=i*n+j by omega];exact Q7y (λ r f=>e r (by simp[f])) (by simpa using h) w
def Qd3{n:Nat}:∀{rows:List (List Value)},(∀r∈rows,r.length=n)->rows.flatten.length=rows.length*n
 |[],_=>S1
 |r::rows,h=>by
  rw[flatten_cons,length_append,Qd3 λ r e=>h r (by simp[e]),h r S1,length_cons,Nat.succ_mul];omega
def Zf8(N:0<n)(h:Zd U a b n D p) :
  ∃rows:List (List Value),rows.length=D.length/\(∀(i:Nat)(x:α),D[i]?=some x->∃r,rows[i]?=some r/\p x r)/\(∀r∈rows,r.length=n)/\Src U a rows.flatten:=by
 have key:∀i:_root_.Fin D.length,∃vs,p D[i] vs/\vs.length=n/\∃f,a=some f/\Ju U (f.add (i.1*n)) vs/\f.spot=none:=λ i=>by
  obtain⟨f,vs,e,G,L,M,z⟩:=h.2 i.1 D[i] S1;exact⟨vs,L,M,f,e,z,G⟩
 let g:_root_.Fin D.length->List Value:=λ i=>Classical.choose (key i)
 have E:∀i,p D[i] (g i)/\(g i).length=n/\∃f,a=some f/\Ju U (f.add (i.1*n)) (g i)/\f.spot=none:=λ i=>Classical.choose_spec (key i);have B:∀i(w:i<D.length),(List.ofFn g)[i]?=some (g ⟨i,w⟩):=λ i w=>by simp[w]
 refine⟨List.ofFn g,S1,λ i x P=>?_,λ r z=>?_,?_⟩
 .obtain⟨w,rfl⟩:=List.getElem?_eq_some_iff.1 P;exact⟨_,B i w,(E ⟨i,w⟩).1⟩
 .obtain⟨i,rfl⟩:=mem_ofFn.1 z;exact(E i).2.1
 .by_cases h0:D.length=0
  .have e:(List.ofFn g)=[]:=length_eq_zero_iff.1 (by simpa using h0);rw[e];cases a with
   |none=>exact .inl ⟨rfl,rfl⟩
   |some f=>exact .inr ⟨f,rfl,λ k v H=>by simp at H⟩
  .obtain⟨-,-,f,e,-,G⟩:=E ⟨0,O1⟩;refine .inr ⟨f,e,λ k v H=>?_⟩;obtain⟨i,j,r,rfl,Q,F,K⟩:=Zd4 N (λ r z=>by obtain⟨i,rfl⟩:=mem_ofFn.1 z;exact(E i).2.1) H;have w:i<D.length:=by have:=(List.getElem?_eq_some_iff.1 F).1;simpa using this
   rw[B i w]at F;cases F;obtain⟨-,-,I,e',z,-⟩:=E ⟨i,w⟩;rw[e]at e';cases e';have:=z j v K
   rwa [Mw _ G]at this
def Ju.map(h:Ju U H vs)(f:∀H v,U.sees H v->U'.sees H v):Ju U' H vs:=λ i v e=>f _ _ (h i v e)
def Z8.map(h:Z8 U a b l)(f:∀a v,U.sees a v->U'.sees a v):Z8 U' a b l:=⟨h.1,λ i x w=>let ⟨ad,e,hs,hv⟩:=h.2 i x w;⟨ad,e,hs,f _ _ hv⟩⟩
def Zd.map{a:Option Addr}{len n:Nat}{α:Type}{l:List α}{R R':α->List Value->Prop}(h:Zd U a len n l R)(f:∀a v,U.sees a v->U'.sees a v)(w:∀x vs,R x vs->R' x vs):Zd U' a len n l R':=⟨h.1,λ i x z=>let ⟨ad,vs,e,hs,hr,hn,hv⟩:=h.2 i x z;⟨ad,vs,e,hs,w _ _ hr,hn,hv.map f⟩⟩
def Qdm(U:Qa T)(c:Cs)(vs:List Value):Prop:=
 ∃ga gl gc e al ac,vs=[.string c.nm,.int .i64 c.ag,.slice ga gl gc,.slice e al ac]/\Wt U ga gl c.gs/\gl<2^60/\Z8 U e al c.af/\al<2^60/\al<=ac
def Qdm.r(h:Qdm U q vs):PK U q vs:=let ⟨ga,gl,gc,aa,al,ac,e,h1,h2,h3,h4,_⟩:=h;⟨ga,gl,gc,aa,al,ac,e,h1,h2,h3,h4⟩
def Qdm.lg{c:Cs}{vs:List Value}(h:Qdm U c vs)(k:U.lg U'):Qdm U' c vs:=let ⟨ga,gl,gc,aa,al,ac,e,h1,h2,h3,h4,h5⟩:=h;⟨ga,gl,gc,aa,al,ac,e,h1.lg k,h2,h3.lg k,h4,h5⟩
def Qdm.map{c:Cs}{vs:List Value}(h:Qdm U c vs)(f:∀a v,U.sees a v->U'.sees a v):Qdm U' c vs:=by
 obtain⟨ga,gl,gc,B,al,ac,e,E,F,G,H,I⟩:=h;refine⟨ga,gl,gc,B,al,ac,e,?_,F,G.map f,H,I⟩
 exact Zd.map E f λ x vs M=>by
  obtain⟨a',z,w,e,K,L⟩:=M;exact⟨a',z,w,e,K.map f,L⟩
structure Qd6(U:Qa T)(h:BH)(b:Bk):Prop where
 v:Zu U h b
 w:Zd U h.ca h.cl 4 b.cs (Qdm U)
def Qd6.lg{h:BH}{b:Bk}(k:Qd6 U h b)(l:U.lg U'):Qd6 U' h b:=⟨k.v.lg l,Zd.lg (R':=Qdm U') k.w l λ _ _ h=>h.lg l⟩
def Qfv(U:Qa T)(rows:List (List Value))(cs:List Cs):Prop:=rows.length=cs.length/\∀(i:Nat)(c:Cs),cs[i]?=some c->∃r,rows[i]?=some r/\Qdm U.frz c r
def Qfv.lg{rows:List (List Value)}{cs:List Cs}(h:Qfv U rows cs)(k:U.frz.lg U'.frz):Qfv U' rows cs:=⟨h.1,λ i c f=>let ⟨r,e,hr⟩:=h.2 i c f;⟨r,e,hr.lg k⟩⟩
def Qfv.nil:Qfv U [] []:=⟨rfl,λ i c h=>by simp at h⟩
def Qfv.snoc(h:Qfv U d k)(z:Qdm U.frz q vs):Qfv U (d++[vs]) (k++[q]):=by
 refine⟨by simp[h.1],λ i x f=>?_⟩;rw[getElem?_append]at f;split at f
 .rename_i hlt;obtain⟨B,e,w⟩:=h.2 i x f;exact⟨B,by rw[getElem?_append_left (by rw[h.1];exact hlt)];exact e,w⟩
 .rename_i hge;have:i=k.length:=by have:=(List.getElem?_eq_some_iff.1 f).1;simp at this;omega
  subst this;simp at f;subst f;exact⟨vs,by rw[<- h.1];simp,z⟩
def Qfv.row(h:Qfv U d k):∀r∈d,r.length=4:=by
 intro r z;obtain⟨i,w⟩:=getElem?_of_mem z;have f:i<k.length:=by rw[<- h.1];exact(List.getElem?_eq_some_iff.1 w).1
 obtain⟨E,e,ga,gl,gc,B,al,ac,rfl,-⟩:=h.2 i _ (getElem?_eq_getElem f);rw[w]at e;cases e;rfl
def Qfv.rows{rows:List (List Value)}{cs:List Cs}{a:Option Addr}(h:Qfv U rows cs)(M:Src U.frz a rows.flatten)(z:∀f,a=some f->f.spot=none):Zd U.frz a cs.length 4 cs (Qdm U.frz):=by
 refine⟨rfl,λ i c H=>?_⟩;obtain⟨r,e,L⟩:=h.2 i c H;have F:=h.row r (mem_of_getElem? e);rcases M with⟨_,K⟩|⟨f,E,w⟩
 .have h1:=Qs7 h.row;rw[K]at h1;have N:=(List.getElem?_eq_some_iff.1 e).1;simp at h1;omega
 .have hs0:=z f E;refine⟨f,r,E,hs0,L,F,λ j v G=>?_⟩;have I:j<4:=by rw[<- F];exact(List.getElem?_eq_some_iff.1 G).1
  have B:=w (i*4+j) v (by rw[Zfk h.row e I];exact G);obtain⟨bb,P,Q⟩:=f;cases hs0;rw[Qu]at B;rw[Qu,Qu,Nat.add_assoc];exact B
abbrev Qa.wi(U:Qa T)(J:List Q2):Qa T:=⟨U.I,J,U.tok⟩
def Zdk{J:List Q2}(B:∀x o,U.I x=some o->U'.I x=some o)(z:∀r∈J,r∈J'):∀a v,(U.wi J).sees a v->(U'.wi J').sees a v:=by
 rintro a v⟨f,⟨c,t,fr,e|e,w⟩|⟨t,n,e⟩⟩
 .exact⟨f,.inl ⟨c,t,fr,.inl (B _ _ e),w⟩⟩
 .exact⟨f,.inl ⟨c,t,fr,.inr (z _ e),w⟩⟩
 .exact⟨f,.inr ⟨t,n,z _ e⟩⟩
def Zhg(z:∀r∈J',r∈U.M):∀a v,(U.wi J').sees a v->U.sees a v:=by
 rintro a v⟨f,⟨c,t,fr,e|e,w⟩|⟨t,n,e⟩⟩
 .exact⟨f,.inl ⟨c,t,fr,.inl e,w⟩⟩
 .exact⟨f,.inl ⟨c,t,fr,.inr (z _ e),w⟩⟩
 .exact⟨f,.inr ⟨t,n,z _ e⟩⟩
def Qnu(U:Qa T)(J:List Q2)(rows:List (List Value))(cs:List Cs):Prop:=rows.length=cs.length/\(∀(i:Nat)(c:Cs),cs[i]?=some c->∃r,rows[i]?=some r/\Qdm (U.wi J) c r)/\∀r∈rows,r.length=4
def Qnu.mono(h:Qnu U g d k)(f:∀x o,U.I x=some o->U'.I x=some o)(w:∀r∈g,r∈J'):Qnu U' J' d k:=
 ⟨h.1,λ i c z=>let ⟨r,e,hr⟩:=h.2.1 i c z;⟨r,e,hr.map (Zdk f w)⟩,h.2.2⟩
def Qnu.set{J:List Q2}{rows:List (List Value)}{cs:List Cs}(h:Qnu U J rows cs){k:Nat}{c:Cs}{r:List Value}(z:Qdm (U.wi J) c r):Qnu U J (rows.set k r) (cs.set k c):=by
 refine⟨by simp[h.1],λ i x f=>?_,λ E w=>?_⟩
 .rw[getElem?_set]at f ⊢;by_cases e:k=i
  .rw[if_pos e]at f ⊢;split at f
   .rename_i hlt;rw[if_pos (by rw[h.1];exact hlt)];cases f;exact⟨r,rfl,z⟩
   .cases f
  .rw[if_neg e]at f ⊢;exact h.2.1 i x f
 .rcases mem_or_eq_of_mem_set w with B|rfl
  .exact h.2.2 _ B
  .obtain⟨_,_,_,_,_,_,rfl,_⟩:=z;rfl
section
variable{S:Sys P T}
def Zft:∀(J:List Q2){U:Qa T}{R:List Q2},(∃w,U.ok w)->(∀r∈J,∃b o,r=.obj b o)->U.M.Perm (J++R) ->
  ∃U'',Q1 U U''/\U''.M=R/\(∀x o,U.I x=some o->U''.I x=some o)/\U''.tok=U.tok/\∀b o,Q2.obj b o∈J->U''.I b=some o
 |[],U,R,_,_,z=>⟨{ U with M:=R },Hf (by simpa using z),rfl,λ _ _ h=>h,rfl,λ b o h=>by simp at h⟩
 |r::J,U,R,H,G,z=>by
  obtain⟨b,o,rfl⟩:=G r S1;have Q:=K0 H;have B:U.I b=none:=Q (.obj b o) (z.mem_iff.2 S1);have f:Q1 U { U with I:=JI U.I b o,M:=J++R }:=Wf z;have E:=D9 H f;obtain⟨U'',S,V,K,W,X⟩:=Zft J (R:=R) E (λ r P=>G r (by simp[P])) (Perm.refl _);refine⟨U'',f.trans S,V,λ x L F=>K x L ?_,W,λ N Y h=>?_⟩
  .show JI U.I b o x=some L;unfold JI;rw[if_neg]
   .exact F
   .rintro rfl;rw[B]at F;cases F
  .rcases mem_cons.1 h with e|h
   .cases e;exact K b o (by show JI U.I b o b=some o;unfold JI;rw[if_pos rfl])
   .exact X N Y h
end
def Zga(E:∀r∈J',∃b o,r=.obj b o)(B:∀x o,U.I x=some o->U''.I x=some o)(h:∀b o,Q2.obj b o∈J'->U''.I b=some o):∀a v,(U.wi J').sees a v->U''.frz.sees a v:=by
 rintro a v⟨w,⟨c,t,fr,f|f,z⟩|⟨t,n,f⟩⟩
 .exact⟨w,.inl ⟨c,t,fr,.inl (B _ _ f),z⟩⟩
 .exact⟨w,.inl ⟨c,t,fr,.inl (h _ _ f),z⟩⟩
 .obtain⟨b,o,e⟩:=E _ f;cases e
def Qk0(l:List Int):∀w∈l.map λ n=>Value.int .i64 n,w.single=true:=λ w e=>by obtain⟨n,-,rfl⟩:=mem_map.1 e;rfl
section
attribute [local irreducible] Qb Zr W5
def Zfp:List St:=[.xo 57 1 3,.xl 58 57,.xd 59 4 5,.d 60 (.bsl 46 1 #[(.string ⟨#[]⟩),(.int .i64 0),.nl,.nl] [(0,4,(.t 59))]),.xz 61 58 60 23,.xo 62 1 3,⟨.st 1 (.t 62) (.t 61),none,none,none⟩]
def Zer(h:BH)(b:Bk)(hb:Zu U.frz h b)(hs:b.Sml) :
  Qb S 43 #[h.v] (λ v U'=>(∃W:BH,v=W.v/\Qd6 U'.frz W b)/\U.le U') U:=by
 have du:=hb.cs.1;have c9:=hb.rs.1;have d1:=hs.rs;have d2:=hs.cs
 have ck:Qb S 43 #[h.v] (λ v U'=>∃(W:BH)(rows:List (List Value))(A RR Y:List Q2),v=W.v/\Qfv U' rows b.cs/\Jx 46 4 (.slice W.ca W.cl W.cc) rows.flatten A/\Jx 9 1 (.slice W.ra W.rl W.rc) (b.rs.flatMap λ s=>[.string s]) RR/\U'.M.Perm (A++(RR++(Y++U.M)))/\(∀x o,U.I x=some o->U'.I x=some o)/\U'.tok=U.tok) U:=by
  refine Qb.of (args:=[_]) Ze3 Qd S1 ?_
  repeat refine⟨rfl,?_⟩
  conv=>whnf
  intro B U1 ap hB;have hB:=Zz4 h hB;have bk:=hb.lg ap.lg.frz2
  conv=>whnf
  intro b2 dv;refine⟨_,.refl _,?_⟩;have c8:=Z6 (U:=U1) b2 (.cells #[.nl,.nl] 25)
  conv=>whnf
  intro b7 cz;refine⟨_,.refl _,?_⟩;have ak:=c8.trans (Z6 (U:=U1.put b2 (.cells #[.nl,.nl] 25)) b7 (.cells #[] 9));refine⟨_,(hB.lg ak).sees3 (o:=0) rfl,?_⟩;have da:=I9 (enc:=λ s=>[Value.string s]) (n:=1) (λ _=>rfl) (show Zd U1.frz h.ra b.rs.length 1 b.rs _ from c9▸bk.rs) D1;have b9:(b.rs.flatMap λ s=>[Value.string s]).length=b.rs.length*1:=Q6 (f:=λ s=>[Value.string s]) (n:=1) (λ _=>rfl) _
  conv=>whnf
  refine Wv (v:=.slice (some ⟨b7,0,none⟩) 0 0) (cs:=[]) (new:=b.rs.flatMap λ s=>[.string s]) (M₀:=.obj b2 (.cells #[.nl,.nl] 25 (0,0))::U1.M) EY rfl rfl .empty (da.lgs (Qy.trans ak)) O1 (λ w hw=>by obtain⟨s,-,hw⟩:=mem_flatMap.1 hw;rw[mem_singleton.1 hw];rfl) (by rw[b9,length_nil];omega) λ v' M' P _=>?_;obtain⟨RR,a3,ao⟩:=P.split;obtain⟨ra,rl,rc,rfl,-⟩:=ao.src
  conv=>whnf
  intro b3 cy;refine⟨_,.refl _,rfl,HR (vs:=[.slice ra rl rc,.nl]) rfl (by simp[Value.single]) ?_⟩;generalize bi:(.obj b2 (.cells #[.nl,.nl] 25 (0,0))::U.M:List Q2)=Y2;have a3:M'=RR++Y2:=by rw[a3,ap.own,bi]
  clear ak P cz cy
  refine⟨Nat×Value,λ y=>[(1,.pb B),(2,.pb b2),(3,.pb b3),(4,.int .i64 y.1)],
   λ y U'=>U1.frz.lg U'/\y.1<=h.cl/\∃(rows:List (List Value))(A:List Q2),Qfv U' rows (b.cs.take y.1)/\Jx 46 4 y.2 rows.flatten A/\U'.M=A++.cl b3 [.slice ra rl rc,y.2] 25::(RR++Y2),
   λ y=>h.cl-y.1,(0,.nl),T1,⟨⟨λ _ _ h=>h,Zz3,rfl⟩,O1,[],[],by rw[take_zero];exact .nil,.nil,by show _::M'=_;rw[a3];rfl⟩,?_⟩
  rintro⟨i,v⟩f U3⟨V,hi,rows,A,z,ab,hM⟩;simp only at hi z ab hM;obtain⟨sa,sl,sc,rfl,d3⟩:=ab.src;have c5:Je ((i:Int)+1):=I1
  have ah:=hB.imI V.imm;have cw:=bk.lg V.frz2;refine⟨_,ah.sees3 (o:=1) rfl,?_⟩
  repeat refine⟨rfl,?_⟩
  conv=>whnf
  apply Qe<;>intro hc
  rotate_left
  .have hge:i=b.cs.length:=by simp at hc;omega
   rw[hge,take_length]at z;subst bi;have cv:U3.M=(A++.cl b3 [.slice ra rl rc,.slice sa sl sc] 25::RR)++.obj b2 (.cells #[.nl,.nl] 25 (0,0))::U.M:=by rw[hM];simp
   refine⟨_,⟨rfl,Ze A hM⟩,rfl,Wk (vs:=[.slice ra rl rc,.slice sa sl sc]) _ cv rfl (by simp[Value.single]) λ U4 Z ae am=>?_⟩;refine⟨_,⟨rfl,Ze _ am⟩,⟨ra,rl,rc,sa,sl,sc⟩,rows,A,RR,[.cl b3 [.slice ra rl rc,.slice sa sl sc] 25,.cl b2 [.slice ra rl rc,.slice sa sl sc] 25],rfl,z.lg ⟨λ x o E=>by show U4.I x=_;rw[Z];exact E,⟨[],rfl⟩,ae⟩,ab,by simpa using ao,?_,λ x o E=>by rw[Z];exact V.imm x o (ap.imm x o E),ae.trans (V.tok.trans ap.tok)⟩;rw[am,append_assoc];refine Perm.append_left A ?_;show Perm (_::(RR++_::U.M)) (RR++(_::_::U.M));exact perm_middle.symm
  have au:i<h.cl:=by simpa using hc
  obtain⟨ad,c,ga,gl,gc,aa,al,ac,E,a6,dh,a7,hg,dz,ha,dt,b0⟩:=cw.case au;obtain⟨dx,c0,dy⟩:=hs.gs c b0;have dg:=hg.1;have bj:=ha.1;have a8:=Qs7 z.row;have b8:rows.length=i:=by rw[z.1,length_take];omega
  refine⟨_,ah.sees3 (o:=1) rfl,ad,i,⟨a6,rfl,au⟩,_,⟨rfl,a7.lg Qy⟩,?_⟩
  conv=>whnf
  intro b5 dw;refine⟨_,.refl _,rfl,HR (vs:=[.string c.nm,.int .i64 c.ag,.slice ga gl gc,.slice aa al ac]) rfl (by simp[Value.single]) ?_⟩
  conv=>whnf
  intro bb de;refine⟨_,.refl _,_,(Ze (e:=46) (M₀:=U3.M) [.obj bb (.cells #[] 3 (0,0))] rfl).cell (i:=3) rfl,?_⟩
  conv=>whnf
  refine Wv (v:=.slice (some ⟨bb,0,none⟩) 0 0) (cs:=[]) (new:=c.af.map λ n=>.int .i64 n) (M₀:=.cl b5 [.string c.nm,.int .i64 c.ag,.slice ga gl gc,.slice aa al ac] 46::U3.M) Hc rfl rfl .empty (ha.src'.lgs ⟨λ _ _ h=>h,Zz3,rfl⟩) (by simp[bj]) (Qk0 _) S3 λ v' M' P _=>?_;obtain⟨F,ct,hF⟩:=P.split;have hF:Jx 3 1 v' (c.af.map λ n=>.int .i64 n) F:=by simpa using hF
  obtain⟨fa,fl,fc,rfl,-⟩:=hF.src;refine⟨rfl,WS (i:=2) (v:=.nl) F ct (by show 2<4;omega) rfl λ U4 Z ae am=>?_⟩;refine⟨rfl,WS (i:=3) (v:=.slice fa fl fc) F am (by show 3<4;omega) rfl λ U5 az a9 N=>?_⟩;have N:U5.M=F++.cl b5 [.string c.nm,.int .i64 c.ag,.nl,.slice fa fl fc] 46::U3.M:=N;have Q:U3.frz.lg U5:=⟨λ x o E=>by rw[az,Z];exact E,Zz3,by rw[a9,ae];rfl⟩
  refine⟨Nat×Value,λ y=>[(1,.pb B),(2,.pb b2),(3,.pb b3),(4,.int .i64 i),(5,.pb b5),(6,.int .i64 y.1)],
   λ y U'=>U3.frz.lg U'/\y.1<=gl/\∃(cells:List Value)(G:List Q2),Xr U' cells (c.gs.take y.1)/\Jx 44 1 y.2 cells G/\U'.M=(G++F)++.cl b5 [.string c.nm,.int .i64 c.ag,y.2,.slice fa fl fc] 46::U3.M,
   λ y=>gl-y.1,(0,.nl),T1,⟨Q,O1,[],[],⟨rfl,S1⟩,.nil,N⟩,?_⟩
  rintro⟨k,gv⟩f U6⟨X,hk,cells,G,H,hG,an⟩;simp only at hk H hG an;obtain⟨ua,ul,uc,rfl,d4⟩:=hG.src;have bx:Je ((k:Int)+1):=I1
  have bd:=ah.imI X.imm;have bl:=H.1;rw[length_take]at bl;refine⟨_,bd.sees3 (o:=1) rfl,ad,i,⟨a6,rfl,au⟩,_,(a7.lg X).cell (i:=2) rfl,?_⟩
  repeat refine⟨rfl,?_⟩
  conv=>whnf
  apply Qe<;>intro hc
  .have hlk:k<gl:=by simpa using hc
   obtain⟨cm,g,vs,bw,c3,di,⟨a',dj,dd,rfl,bs,c4⟩,-,b6⟩:=Zd.at (Wt.lg hg X.frz2) hlk;have df:=c0 g (mem_of_getElem? bw);have bt:=bs.1;subst bt;refine⟨_,(Ze (G++F) an).cell (i:=2) rfl,_,bd.sees3 (o:=1) rfl,ad,i,⟨a6,rfl,au⟩,_,(a7.lg X).cell (i:=2) rfl,cm,k,⟨c3,rfl,hlk⟩,_,(b6.lg Qy) 0 _ rfl,λ v U'=>∃p,v=.slice (some ⟨p,0,none⟩) 0 0/\Zo U' p #[],λ v y1 y2⟨p,e,hh⟩L=>⟨p,e,hh.le L⟩,λ U' L _=>?_,λ v hv=>?_⟩
   .conv=>whnf
    intro p hp;exact Zm hp λ U9 ai hp=>⟨_,.refl _,⟨p,rfl,hp⟩,ai⟩
   obtain⟨_,-,-,p,rfl,-⟩:=hv;refine⟨λ v U'=>∃na nc,v=.slice na g.length nc/\Z8 U'.frz na g.length g,λ v y1 y2⟨na,nc,e,hh⟩L=>⟨na,nc,e,hh.lg L.lg.frz2⟩,λ U' L hC=>?_,λ v hv=>?_⟩
   .obtain⟨-,p',e,hP⟩:=hC;obtain rfl:p=p':=by simpa using e
    have cq:=bs.lg L.lg.frz2
    conv=>whnf
    refine Em (sa:=some ⟨p,0,none⟩) (sl:=0) (cs:=[]) (new:=g.map λ n=>.int .i64 n) Hc rfl rfl (.inr ⟨_,rfl,λ i v hv=>by simp at hv⟩) rfl (cq.lg Qy).src' S1 S3 (λ b1=>?_) (λ d0 b c cap hf h1 h2 h3=>?_)
    .obtain rfl:g=[]:=by simpa using b1
     exact⟨U',.refl _,⟨_,_,rfl,rfl,λ i x E=>by simp at E⟩,.refl _⟩
    .rw[Nat.zero_add];exact Zm hf λ U9 ai hb=>⟨⟨_,_,rfl,VS (.inr ⟨_,rfl,(show Zo U9.frz b c from hb).reads (λ k v hv=>by rw[Nat.zero_add];exact h3 k v hv)⟩) λ ad e=>by cases e;rfl⟩,ai⟩
   obtain⟨_,-,-,na,nc,rfl,-⟩:=hv;refine⟨λ v U'=>∃bq,v=.slice (some ⟨bq,0,none⟩) 1 1/\Zo U' bq #[.slice na g.length nc],λ v y1 y2⟨bn,e,hh⟩L=>⟨bn,e,hh.le L⟩,λ U' L _=>?_,λ v hv=>?_⟩
   .conv=>whnf
    intro bq K;exact Zm K λ U9 ai K=>⟨_,.refl _,⟨bq,rfl,K⟩,ai⟩
   obtain⟨_,-,-,bq,rfl,-⟩:=hv
   conv=>whnf
   rintro U7 h7⟨⟨⟨-,-⟩,db,dc,e2,hI⟩,co,e3,cp⟩;obtain⟨rfl,rfl⟩:na=db/\nc=dc:=by simpa using e2
   obtain rfl:bq=co:=by simpa using e3
   conv=>whnf
   refine Wv (v:=.slice ua ul uc) (cs:=cells) (new:=[.slice na g.length nc]) (M₀:=F++.cl b5 [.string c.nm,.int .i64 c.ag,.slice ua ul uc,.slice fa fl fc] 46::U3.M) Fu rfl rfl (by rw[h7.own,an,append_assoc];exact hG _) (.inr ⟨_,rfl,cp.rd⟩) rfl (by simp[Value.single]) S3 λ v' M' P _=>?_;obtain⟨G',cu,be⟩:=P.split;obtain⟨ta,tl,tc,rfl,-⟩:=be.src;refine⟨rfl,WS (i:=2) (v:=.slice ta tl tc) (G'++F) (by show M'=_;rw[cu,append_assoc]) (by show 2<4;omega) rfl λ U8 a0 ba bh=>?_⟩;refine⟨bx,rfl,(k+1,.slice ta tl tc),T1,⟨⟨λ x o E=>by rw[a0];exact h7.imm x o (X.imm x o E),Zz3,by rw[ba];exact h7.tok.trans X.tok⟩,by show k+1<=gl;omega,cells++[.slice na g.length nc],G',?_,be,bh⟩,L1⟩;show Xr U8 _ (c.gs.take (k+1));rw[Wm bw];have hz:U6.frz.lg U8.frz:=⟨λ x o E=>by show U8.I x=_;rw[a0];exact h7.imm x o E,⟨[],rfl⟩,by show U8.tok=_;rw[ba];exact h7.tok⟩;exact(H.lg hz).snoc (hI.lg ⟨λ x o E=>by show U8.I x=_;rw[a0];exact E,⟨[],rfl⟩,by show U8.tok=_;rw[ba];rfl⟩) O1
  have br:k=c.gs.length:=by simp at hc;omega
  rw[br,take_length]at H;have bg:U6.M.Perm (G++(F++([.cl b5 [.string c.nm,.int .i64 c.ag,.slice ua ul uc,.slice fa fl fc] 46]++U3.M))):=by rw[an,append_assoc];rfl
  conv=>whnf
  intro act aj;refine Zhc (mu:=[]) (dets:=[]) (l:=Zfp) aj Qd K1 λ hw=>?_;obtain⟨τ₁,k1,k2,k3,dp,dr,dq,e1,aw,bu,bv⟩:=hG.freeze (K0 hw) bg;cases e1;have cj:=D9 hw k1;obtain⟨τ₂,m1,m2,m3,dk,dm,dl,e2,av,bo,bp⟩:=hF.freeze (K0 cj) (by rw[k2]);cases e2;obtain⟨τ₃,n1,n2,n3,x1,x2,x3,e3,-,cx,-⟩:=(Jx.ofBlk (e:=46) (n:=4) (b:=b5) (len:=1) (cap:=1) (cs:=[.string c.nm,.int .i64 c.ag,.slice ua ul uc,.slice fa fl fc]) (c:=[Value.string c.nm,.int .i64 c.ag,.slice ua ul uc,.slice fa fl fc].toArray) rfl (Nat.le_refl _) rfl (λ i x E=>by simpa using E)).freeze (K0 (D9 cj m1)) (by rw[m2]);cases e3
  have b4:Ju τ₃.frz ⟨b5,0,none⟩ [.string c.nm,.int .i64 c.ag,.slice ua ul uc,.slice fa fl fc]:=by
   rcases cx with⟨h,_⟩|⟨ad,e,h⟩
   .cases h
   .cases e;exact h
  have bz:U6.frz.lg τ₃.frz:=k3.trans (m3.trans n3);have ay:U3.frz.lg τ₃.frz:=X.frz2.trans bz;simp at aw av
  have a5:Qdm τ₃.frz c [.string c.nm,.int .i64 c.ag,.slice ua ul uc,.slice fa fl fc]:=by
   refine⟨_,_,_,_,_,_,rfl,?_,O1,?_,O1,(hF []).room⟩
   .have:=((H.lg k3).lists bu bv).lg (m3.trans n3)
    rwa [<- H.1,aw]at this
   .have:=(VS bo bp).lg n3
    rwa [av]at this
  have bf:τ₃.M=A++.cl b3 [.slice ra rl rc,.slice sa sl sc] 25::(RR++Y2):=n2.trans hM;refine⟨τ₃,k1.trans (m1.trans n1),_,(Ze A bf).cell (i:=1) rfl,_,⟨rfl,b4.lg Qy⟩,?_⟩
  conv=>whnf
  intro bq K;refine Zm K λ τ₄ a4 K=>?_;have K:Zo τ₄ bq #[.string c.nm,.int .i64 c.ag,.slice ua ul uc,.slice fa fl fc]:=K
  conv=>whnf
  refine Wv (v:=.slice sa sl sc) (cs:=rows.flatten) (new:=[.string c.nm,.int .i64 c.ag,.slice ua ul uc,.slice fa fl fc]) (M₀:=.cl b3 [.slice ra rl rc,.slice sa sl sc] 25::(RR++Y2)) UW rfl rfl (by rw[a4.own,bf];exact ab _) (.inr ⟨_,rfl,K.rd⟩) rfl (by simp[Value.single]) (by rw[a8,b8];simp;omega) λ v' M' P _=>?_;obtain⟨A',cr,bc⟩:=P.split;obtain⟨ta,tl,tc,rfl,-⟩:=bc.src;refine⟨rfl,WS (i:=1) (v:=.slice ta tl tc) A' cr (by show 1<2;omega) rfl λ τ₅ az a9 N=>?_⟩;have Q:τ₃.frz.lg τ₅.frz:=⟨λ x o E=>by show τ₅.I x=_;rw[az];exact a4.imm x o E,⟨[],rfl⟩,by show τ₅.tok=_;rw[a9];exact a4.tok⟩;have ax:U1.frz.lg τ₅.frz:=V.frz2.trans (ay.trans Q)
  conv=>whnf
  intro a' aq;refine⟨by rw[aq.size,aj.size],_,aq.get,?_⟩;rw[aq.ds];clear aq aj;refine⟨c5,rfl,(i+1,.slice ta tl tc),T1,⟨⟨ax.imm,Zz3,ax.tok⟩,by show i+1<=h.cl;omega,rows++[[.string c.nm,.int .i64 c.ag,.slice ua ul uc,.slice fa fl fc]],A',?_,by simpa using bc,N⟩,L1⟩;show Qfv τ₅ _ (b.cs.take (i+1));rw[Wm E];exact(z.lg (ay.trans Q)).snoc (a5.lg Q)
 refine ck.okv λ v U' hw⟨W,rows,A,RR,Y,hv,z,hA,ao,hM,hI,ht⟩=>?_;obtain⟨τ₁,k1,k2,k3,a1,l1,c1,e1,c6,ce,cg⟩:=hA.freeze (K0 hw) hM;cases e1;obtain⟨τ₂,m1,m2,m3,a2,l2,c2,e2,c7,cf,ch⟩:=ao.freeze (K0 (D9 hw k1)) (by rw[k2]);cases e2;rw[Qs7 z.row,z.1]at c6;rw[Q6 (f:=λ s=>[Value.string s]) (n:=1) (λ _=>rfl)]at c7;have hz:U'.frz.lg τ₂.frz:=k3.trans m3
 have bm:Zd ({ τ₂ with M:=U.M }:Qa T).frz W.ca W.cl 4 b.cs (Qdm ({ τ₂ with M:=U.M }:Qa T).frz):=by
  have:=(z.lg k3).rows ce cg;rw[show b.cs.length=W.cl by omega]at this;exact Zd.lg (R':=Qdm ({ τ₂ with M:=U.M }:Qa T).frz) this m3 λ _ _ h=>h.lg m3
 refine⟨{ τ₂ with M:=U.M },k1.trans (m1.trans (Z2 (by rw[m2];exact sublist_append_right ..))),⟨W,hv,⟨⟨?_,Zd.lg (R':=PK ({ τ₂ with M:=U.M }:Qa T).frz) bm (Qa.le.refl _).lg λ _ _ h=>h.r,O1,O1,hb.rn,hb.cn⟩,bm⟩⟩,⟨λ x o E=>hz.imm x o (hI x o E),rfl,hz.tok.trans ht⟩⟩;have:=HH (enc:=λ s=>[Value.string s]) (n:=1) (λ _=>rfl) cf ch D1;rw[show b.rs.length=W.rl by omega]at this;exact this
