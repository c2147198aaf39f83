/- Lemmas. No conditions. -/
import Derived.Test.YtcakpkianonbkaaGreatDoorB41
set_option linter.all false
open List
open Go.Proofs.Tryz (prog)
set_option maxRecDepth 100000
namespace Go.TM
variable{T:Type}{P:Program}{S:Sys P T}{U U':Qa T}
def JY(U:Qa T)(v:Value)(l:List Int):Prop:=∃a cap,v=.slice a l.length cap/\Z0 U a l.length l/\l.length<=cap
def JY.lg{v:Value}{l:List Int}(h:JY U v l)(b:U.lg U'):JY U' v l:=let ⟨a,c,e,h,r⟩:=h;⟨a,c,e,h.lg b,r⟩
def JY.nil:JY U (.slice none 0 0) []:=⟨none,0,rfl,⟨rfl,λ i x h=>by simp at h⟩,Nat.le_refl _⟩
def JY.v{v:Value}{l:List Int}(h:JY U v l):J0 U v l:=let ⟨a,c,e,h,_⟩:=h;⟨a,c,e,h⟩
def P6(S:Sys P T)(g:FuncId)(first e:Array Value){α:Type}(enc:α->List Value)(n:Nat)(ps:List (List α))(I:Nat->Qa T->Prop)(E:Qa T->Prop)(U₀:Qa T):Prop:=
 ∀(k:Nat)(p:List α)(a:Option Addr)(cap:Nat)(U:Qa T)(X h:List Qw),ps[k]?=some p->U₀.frz.lg U.frz->Qy U.frz a p.length n p (λ x vs=>vs=enc x)->((∀w,a=some w->w.spot=none)/\p.length<=cap)->U.M=X++h->I k ⟨U.I,h,U.tok⟩ ->
  Qb S g (first.toList++[Value.slice a p.length cap]++e.toList).toArray (λ v U'=>(v=.bool false/\U.frz.lg U'.frz/\∃b,U'.M=X++b/\I (k+1) ⟨U'.I,b,U'.tok⟩)\/(v=.bool true/\∃z b,U'.M=z++b/\E ⟨U'.I,b,U'.tok⟩/\∀x o,U.I x=some o->U'.I x=some o)) U
def Src.lg'{a:Option Addr}{cs:List Value}(h:Src U a cs)(k:U.lg U'):Src U' a cs:=h.imp id λ⟨b,e,r⟩=>⟨b,e,r.lg k⟩
def G5{α:Type}{enc:α->List Value}{n:Nat}(z:∀x,(enc x).length=n){a:Option Addr}{l:List α}(h:Src U a (l.flatMap enc))(w:∀b,a=some b->b.spot=none)(e:0<n):Qy U a l.length n l λ x vs=>vs=enc x:=by
 refine⟨rfl,λ i x H=>?_⟩
 have E:(l.flatMap enc)≠[]:=by
  intro I;have:=Q1 z l;rw[I]at this;have Q:=(List.getElem?_eq_some_iff.1 H).1;have P:0<l.length*n:=Nat.mul_pos O1 e;simp at this;omega
 rcases h with⟨_,B⟩|⟨b,rfl,L⟩
 .exact absurd B E
 .refine⟨b,enc x,rfl,w b rfl,rfl,z x,λ j v G=>?_⟩;have K:j<n:=by have:=(List.getElem?_eq_some_iff.1 G).1;rw[z]at this;exact this
  have F:=L (i*n+j) v (by rw[PO z H K];exact G);obtain⟨bb,M,N⟩:=b;cases w ⟨bb,M,N⟩ rfl;rw[Qp]at F;rw[Qp,Qp,Nat.add_assoc];exact F
end Go.TM
namespace Go.Proofs
open Go.TM
variable{T:Type}{S:TM.Sys prog T}{U:Qa T}
attribute [local irreducible] Qb Zh Wh
def KE:Xh prog 70 78 2:=.of K1
def tw:prog.underlying 70=some (.slice 78):=K1
def Z1(n:Int):List Value:=[.int .i64 n]
def FX:List (List (Nat×St)):=[[(0,.xl 26 5),(0,.m 27 0),(0,.xo 28 0 4),(0,.xl 29 28),(0,.m 30 9),(0,.xi 31 2 29 30),(0,.xd 32 2 31),(0,.m 35 9),(0,.xa 36 35),(2,.d 33 (.bsl 78 1 #[(.int .i64 0),(.int .i64 0)] [(0,2,(.t 32))])),(2,.xz 34 27 33 70)]]
def R3:List St:=[.d 37 (.call (.t 26) #[(.t 34),(.t 36)])]
def FW:List (List (Nat×St)):=[[(0,.xl 26 5),(0,.m 27 0),(0,.xo 28 0 4),(0,.xl 29 28),(0,.m 30 9),(0,.xi 31 1 29 30),(0,.xl 32 31),(0,.m 35 9),(0,.xa 36 35),(2,.d 33 (.bsl 3 1 #[(.int .i64 0)] [(0,1,(.t 32))])),(2,.xz 34 27 33 22)]]
def R2:List St:=[.d 37 (.call (.t 26) #[(.t 34),(.t 36)])]
def encII(p:Int×Int):List Value:=[.int .i64 p.1,.int .i64 p.2]
def Ai(a:Option Addr)(cap:Nat)(l:List (Int×Int))(Z:Src U a (l.flatMap encII))(Y:l.length<=1000) :
  Qb S 113 #[.slice a l.length cap] (λ v U'=>(∃a' b,v=.slice a' l.length b/\Qy U'.frz a' l.length 2 l (λ x vs=>vs=encII x)/\(∀z,a'=some z->z.spot=none)/\l.length<=b)/\U.le U') U:=by
 have B:(l.flatMap encII).length=l.length*2:=Q1 (f:=encII) (λ _=>rfl) l
 have V:∀w∈l.flatMap encII,w.single=true:=by
  intro w hw;obtain⟨x,_,W⟩:=mem_flatMap.1 hw;simp[encII]at W
  first|(rcases W with rfl|rfl <;> rfl)|(subst W;rfl)
 have N:Qb S 113 #[.slice a l.length cap] (λ v U'=>Acc 78 2 v (l.flatMap encII) U'.M U.M/\(∀x o,U.I x=some o->U'.I x=some o)/\U'.tok=U.tok) U:=by
  refine Qb.of (args:=[_]) LM Qe S1 ?_
  conv=>whnf
  refine Y3 tw rfl ?_
  conv=>whnf
  apply Qd<;>intro X
  .have P:a=none:=by simpa using X
   subst P
   have:l=[]:=by
    rcases Z with⟨_,F⟩|⟨z,F,_⟩
    .cases l with
     |nil=>rfl
     |cons x r=>simp[encII]at F
    .cases F
   subst this
   repeat refine⟨rfl,?_⟩
   conv=>whnf
   exact⟨.nil,λ _ _ h=>h,rfl⟩
  .obtain⟨z,rfl⟩:∃z,a=some z:=by cases a with|none=>cases X|some z=>exact⟨z,rfl⟩
   conv=>whnf
   intro Q ab;refine⟨_,.refl _,?_⟩
   have E:Src (U.put Q (.cells #[] 78)) (some z) (l.flatMap encII):=by
    rcases Z with⟨F,_⟩|⟨aa,e,hr⟩
    .cases F
    .cases e;exact .inr ⟨_,rfl,hr.lg (Z2 Q _)⟩
   conv=>whnf
   refine Wy (v:=.slice (some ⟨Q,0,none⟩) 0 0) (cs:=[]) (new:=l.flatMap encII) (M₀:=U.M) KE rfl rfl .empty E B V (by rw[B,length_nil];omega) λ v' M' G _=>?_;obtain⟨ta,tl,tc,rfl,-,-⟩:=Acc.src (U:={ U with M:=M' }) G
   repeat refine⟨rfl,?_⟩
   conv=>whnf
   exact⟨by simpa using G,λ _ _ h=>h,rfl⟩
 refine N.sep λ v U' E⟨P,hI,ht⟩=>?_;obtain⟨U'',k1,k2,a',L,b,rfl,T,K,H,_⟩:=P.freeze E hI ht;have:l.length=L:=by have e:=B.symm.trans T;omega
 subst this;exact⟨U'',k1,⟨a',b,rfl,G5 (enc:=encII) (n:=2) (λ _=>rfl) K H D1,H,P.room⟩,k2⟩
structure Pm(U:Qa T)(l:List (Int×Int))(many:Nat)(g:FuncId)(first capt:Array Value)(bm bt bl bn:Nat):Prop where
 m:Zf U bm #[.int .i64 many]
 t:Zf U bt #[.func (.func g) first capt]
 l:∃a cap,Zf U bl #[.slice a l.length cap]/\Qy U.frz a l.length 2 l (λ x vs=>vs=encII x)
 n:Zf U bn #[.func (.func 112) #[] #[.pointer (some ⟨bm,0,none⟩),.pointer (some ⟨bt,0,none⟩),.pointer (some ⟨bl,0,none⟩),.pointer (some ⟨bn,0,none⟩)]]
def Pm.lg{U':Qa T}{l:List (Int×Int)}{e:Nat}{g:FuncId}{first b:Array Value}{bm B w z:Nat}(h:Pm U l e g first b bm B w z)(k:U.frz.lg U'.frz):Pm U' l e g first b bm B w z:=
 ⟨h.m.imI k.imm,h.t.imI k.imm,let ⟨a,c,h1,h2⟩:=h.l;⟨a,c,h1.imI k.imm,h2.lg k λ _ _ h=>h⟩,h.n.imI k.imm⟩
def Ah(a:Option Addr)(cap:Nat)(l:List Int)(Z:Src U a (l.flatMap Z1))(Y:l.length<=1000) :
  Qb S 103 #[.slice a l.length cap] (λ v U'=>(∃a' b,v=.slice a' l.length b/\Qy U'.frz a' l.length 1 l (λ x vs=>vs=Z1 x)/\(∀z,a'=some z->z.spot=none)/\l.length<=b)/\U.le U') U:=by
 have B:(l.flatMap Z1).length=l.length*1:=Q1 (f:=Z1) (λ _=>rfl) l
 have V:∀w∈l.flatMap Z1,w.single=true:=by
  intro w hw;obtain⟨x,_,W⟩:=mem_flatMap.1 hw;simp[Z1]at W
  first|(rcases W with rfl|rfl <;> rfl)|(subst W;rfl)
 have N:Qb S 103 #[.slice a l.length cap] (λ v U'=>Acc 3 1 v (l.flatMap Z1) U'.M U.M/\(∀x o,U.I x=some o->U'.I x=some o)/\U'.tok=U.tok) U:=by
  refine Qb.of (args:=[_]) PZ Qe S1 ?_
  conv=>whnf
  refine Y3 V7 rfl ?_
  conv=>whnf
  apply Qd<;>intro X
  .have P:a=none:=by simpa using X
   subst P
   have:l=[]:=by
    rcases Z with⟨_,F⟩|⟨z,F,_⟩
    .cases l with
     |nil=>rfl
     |cons x r=>simp[Z1]at F
    .cases F
   subst this
   repeat refine⟨rfl,?_⟩
   conv=>whnf
   exact⟨.nil,λ _ _ h=>h,rfl⟩
  .obtain⟨z,rfl⟩:∃z,a=some z:=by cases a with|none=>cases X|some z=>exact⟨z,rfl⟩
   conv=>whnf
   intro Q ab;refine⟨_,.refl _,?_⟩
   have E:Src (U.put Q (.cells #[] 3)) (some z) (l.flatMap Z1):=by
    rcases Z with⟨F,_⟩|⟨aa,e,hr⟩
    .cases F
    .cases e;exact .inr ⟨_,rfl,hr.lg (Z2 Q _)⟩
   conv=>whnf
   refine Wy (v:=.slice (some ⟨Q,0,none⟩) 0 0) (cs:=[]) (new:=l.flatMap Z1) (M₀:=U.M) HA rfl rfl .empty E B V (by rw[B,length_nil];omega) λ v' M' G _=>?_;obtain⟨ta,tl,tc,rfl,-,-⟩:=Acc.src (U:={ U with M:=M' }) G
   repeat refine⟨rfl,?_⟩
   conv=>whnf
   exact⟨by simpa using G,λ _ _ h=>h,rfl⟩
 refine N.sep λ v U' E⟨P,hI,ht⟩=>?_;obtain⟨U'',k1,k2,a',L,b,rfl,T,K,H,_⟩:=P.freeze E hI ht;have:l.length=L:=by have e:=B.symm.trans T;omega
 subst this;exact⟨U'',k1,⟨a',b,rfl,G5 (enc:=Z1) (n:=1) (λ _=>rfl) K H D1,H,P.room⟩,k2⟩
structure Pl(U:Qa T)(l:List Int)(many:Nat)(g:FuncId)(first capt:Array Value)(bm bt bl bn:Nat):Prop where
 m:Zf U bm #[.int .i64 many]
 t:Zf U bt #[.func (.func g) first capt]
 l:∃a cap,Zf U bl #[.slice a l.length cap]/\Qy U.frz a l.length 1 l (λ x vs=>vs=Z1 x)
 n:Zf U bn #[.func (.func 102) #[] #[.pointer (some ⟨bm,0,none⟩),.pointer (some ⟨bt,0,none⟩),.pointer (some ⟨bl,0,none⟩),.pointer (some ⟨bn,0,none⟩)]]
def Pl.lg{U':Qa T}{l:List Int}{e:Nat}{g:FuncId}{first b:Array Value}{bm B w z:Nat}(h:Pl U l e g first b bm B w z)(k:U.frz.lg U'.frz):Pl U' l e g first b bm B w z:=
 ⟨h.m.imI k.imm,h.t.imI k.imm,let ⟨a,c,h1,h2⟩:=h.l;⟨a,c,h1.imI k.imm,h2.lg k λ _ _ h=>h⟩,h.n.imI k.imm⟩
set_option maxHeartbeats 1000000 in
def zR(l:List (Int×Int))(hl:l.length<=1000)(aj:Nat)(hm:aj<=1000)(g:FuncId)(first am:Array Value)(hg:(prog.funcs[g]?.any λ fd=>fd.body.isSome&&fd.name != "runtime.NumGoroutine")=true){bm bt bl bn:Nat}{ps:List (List (Int×Int))}{I:Nat->Qa T->Prop}{E:Qa T->Prop}{U₀:Qa T}
  (a7:∀k L Y,L.le Y->I k L->I k Y) (bj:P6 S g first am encII 2 ps I E U₀) :
  ∀(m:Nat)(x:List (Int×Int))(i j:Nat)(xv:Value)(U:Qa T)(Z Mc:List Qw),x.length+m=aj->i<=l.length->U₀.frz.lg U.frz->Pm U l aj g first am bm bt bl bn->Acc 78 2 xv (x.flatMap encII) U.M (Z++Mc)->(∀(i':Nat)q,(TM.parts (l.drop i) m)[i']?=some q->ps[j+i']?=some (x++q))->I j ⟨U.I,Mc,U.tok⟩ ->
   Qb S 112 #[xv,.int .i64 i,.pointer (some ⟨bm,0,none⟩),.pointer (some ⟨bt,0,none⟩),.pointer (some ⟨bl,0,none⟩),.pointer (some ⟨bn,0,none⟩)]
    (λ v U'=>(v=.bool false/\U.frz.lg U'.frz/\∃w,Acc 78 2 xv (x.flatMap encII) U'.M (Z++w)/\I (j+(TM.parts (l.drop i) m).length) ⟨U'.I,w,U'.tok⟩)\/(v=.bool true/\∃X' w,U'.M=X'++w/\E ⟨U'.I,w,U'.tok⟩/\∀x o,U.I x=some o->U'.I x=some o)) U:=by
 intro m
 induction m with
 |zero=>
  intro x i j xv U Z Mc bk hi h0 ab F V hI;obtain⟨sa,sl,sc,rfl,aq,a6⟩:=F.src;have au:x.length=sl:=by have e:=(Q1 (f:=encII) (n:=2) (λ _=>rfl) x).symm.trans aq;omega
  subst au
  obtain⟨A,hA⟩:∃A,U.M=A++(Z++Mc):=by
   rcases F with⟨_,_,hM⟩|⟨b,c,len,cap,_,_,_,_,hM,_⟩
   .exact⟨[],hM⟩
   .exact⟨[_],hM⟩
  refine Qb.of (args:=[_,_,_,_,_,_]) KU Qe S1 ?_;refine⟨_,ab.m.sees3 (o:=0) rfl,?_⟩
  repeat refine⟨rfl,?_⟩
  conv=>whnf
  apply Qd<;>intro hc
  .refine⟨_,ab.t.sees3 (o:=0) rfl,λ v U'=>∃a' al,v=.slice a' x.length al/\Qy U'.frz a' x.length 2 x (λ x vs=>vs=encII x)/\(∀ad,a'=some ad->ad.spot=none)/\x.length<=al,λ v L Y⟨a',c',e,h,s⟩z=>⟨a',c',e,h.lg z.lg.frz2 λ _ _ h=>h,s⟩,λ U' z hC=>?_,λ v hv=>?_⟩
   .refine⟨LM.any,(Ai sa sc x (Src.lg' a6 z.lg) O1).mono ?_⟩;rintro v U''⟨hv,a3⟩-;exact⟨U'',.refl _,hv,a3⟩
   obtain⟨_,-,-,a',c',rfl,-⟩:=hv
   conv=>whnf
   intro L aa hC;obtain⟨-,a2,c2,e2,hr,hs⟩:=hC;cases e2;have a4:ps[j]?=some x:=by have:=V 0 [] (by rw[PQ];rfl);simpa using this
   have ax:L.M=(A++Z)++Mc:=by rw[aa.own,hA,append_assoc]
   refine⟨hg,(bj j x a' c' L (A++Z) Mc a4 (h0.trans aa.lg.frz2) hr hs ax (a7 j ⟨U.I,Mc,U.tok⟩ ⟨L.I,Mc,L.tok⟩ ⟨aa.imm,rfl,aa.tok⟩ hI)).mono ?_⟩;rintro v Y (⟨rfl,ah,w,X,aw⟩|⟨rfl,X',w,X,hE,ag⟩) -
   .repeat refine⟨rfl,?_⟩
    conv=>whnf
    refine .inl ⟨rfl,aa.lg.frz2.trans ah,w,?_,by rw[PQ];exact aw⟩;rcases F with⟨e1,g2,hM⟩|⟨b,c,len,cap,e1,g1,g2,g3,hM,g5⟩
    .refine .inl ⟨e1,g2,?_⟩
     have:A=[]:=by
      rw[hM]at hA;exact self_eq_append_left.1 hA
     rw[X,this];rfl
    .refine .inr ⟨b,c,len,cap,e1,g1,g2,g3,?_,g5⟩
     have:A=[.obj b (.cells c 78 (0,0))]:=by
      rw[hM]at hA;exact(append_cancel_right (show[Qw.obj b (.cells c 78 (0,0))]++(Z++Mc)=A++(Z++Mc) from hA)).symm
     rw[X,this,append_assoc];rfl
   .repeat refine⟨rfl,?_⟩
    conv=>whnf
    exact .inr ⟨rfl,X',w,X,hE,λ x o hx=>ag x o (aa.imm x o hx)⟩
  .simp at hc;omega
 |succ m ih=>
  intro x i j xv U Z Mc bk hi h0 ab F V hI;obtain⟨sa,sl,sc,rfl,aq,-⟩:=F.src;have au:x.length=sl:=by have e:=(Q1 (f:=encII) (n:=2) (λ _=>rfl) x).symm.trans aq;omega
  subst au;have be:(x.flatMap encII).length=x.length*2:=Q1 (f:=encII) (λ _=>rfl) x;refine Qb.of (args:=[_,_,_,_,_,_]) KU Qe S1 ?_;refine⟨_,ab.m.sees3 (o:=0) rfl,?_⟩
  repeat refine⟨rfl,?_⟩
  conv=>whnf
  apply Qd<;>intro hc
  .simp at hc;omega
  clear hc
  refine⟨Nat×Nat,λ y=>[(0,.slice sa x.length sc),(2,.pointer (some ⟨bm,0,none⟩)),(3,.pointer (some ⟨bt,0,none⟩)),(4,.pointer (some ⟨bl,0,none⟩)),(5,.pointer (some ⟨bn,0,none⟩)),(9,.int .i64 y.1)],
   λ y U'=>U.frz.lg U'.frz/\y.1<=l.length/\(∃w,Acc 78 2 (.slice sa x.length sc) (x.flatMap encII) U'.M (Z++w)/\I y.2 ⟨U'.I,w,U'.tok⟩)/\(∀(i':Nat)q,(TM.parts (l.drop y.1) (m+1))[i']?=some q->ps[y.2+i']?=some (x++q))/\y.2+(TM.parts (l.drop y.1) (m+1)).length=j+(TM.parts (l.drop i) (m+1)).length,
   λ y=>l.length-y.1,(i,j),T1,⟨⟨λ _ _ h=>h,⟨[],rfl⟩,rfl⟩,hi,⟨Mc,F,hI⟩,V,rfl⟩,?_⟩
  rintro⟨i,jj⟩f L⟨ah,hi,⟨w,F,hI⟩,V,P⟩;simp only at hi V P hI;have an:=ab.lg ah;obtain⟨la,lc,ay,ap⟩:=an.l;have a1:Ze ((i:Int)+1):=I1
  refine⟨_,ay.sees3 (o:=0) rfl,?_⟩
  repeat refine⟨rfl,?_⟩
  conv=>whnf
  apply Qd<;>intro hc
  .have hlt:i<l.length:=by simpa using hc
   obtain⟨ad,e,vs,hx,rfl,bo,rfl,-,bi⟩:=Qy.at ap hlt;have bh:=Fa (m:=m) hx;rw[bh]at V P;rw[length_append,length_map]at P;have bg:Zf L.frz bn _:=an.n.imI λ _ _ h=>h;have bf:Zf L.frz bl _:=ay.imI λ _ _ h=>h
   conv=>whnf
   intro ac Q
   refine D8 (mu:=[1006]) (ops:=Pw Tryz.f112 6) (id:=6) Q [7,8] [[0,1,2,3,4,5,6,9,10,7,8]] [11] FX R3 Qe K1 K1 K1 K1 K1
    (λ f' av U'=>av=[]/\∃(ak:Value)(Zn:List Qw),XS f' [(0,.slice sa x.length sc),(2,.pointer (some ⟨bm,0,none⟩)),(3,.pointer (some ⟨bt,0,none⟩)),(4,.pointer (some ⟨bl,0,none⟩)),(5,.pointer (some ⟨bn,0,none⟩)),(9,.int .i64 i),(26,.func (.func 112) #[] #[.pointer (some ⟨bm,0,none⟩),.pointer (some ⟨bt,0,none⟩),.pointer (some ⟨bl,0,none⟩),.pointer (some ⟨bn,0,none⟩)]),(34,ak),(36,.int .i64 ((i:Int)+1))]/\Acc 78 2 ak (x.flatMap encII++encII e) U'.M (Zn++(Z++w))/\(∀ae B,Acc 78 2 ak (x.flatMap encII++encII e) ae (Zn++B)->∃M3:List Qw,M3.Sublist ae/\Acc 78 2 (.slice sa x.length sc) (x.flatMap encII) M3 B)/\L.frz.lg U') ?_ ?_
   .intro l' hl';simp only[FX,mem_cons,not_mem_nil,or_false]at hl';subst hl';refine⟨_,bg.sees3 (o:=0) rfl,_,bf.sees3 (o:=0) rfl,ad,i,⟨rfl,rfl,hlt⟩,_,⟨rfl,bi⟩,a1,λ v U'=>∃N,v=.slice (some ⟨N,0,none⟩) 1 1/\Zf U' N (encII e).toArray/\L.le U',λ v L Y⟨N,e1,hb,hl⟩z=>⟨N,e1,hb.le z,hl.trans z⟩,λ v U'⟨N,e1,hb,hl⟩=>⟨hl.imm,⟨_,(append_nil _).symm⟩,hl.tok⟩,λ U' hC=>?_,λ v hv=>?_⟩
    .have z:=hC
     conv=>whnf
     intro N az;exact Zl az λ U3 bc hb=>⟨U3,.refl _,N,rfl,hb,Qa.le.trans z bc⟩
    obtain⟨_,N,rfl,-⟩:=hv;refine⟨λ v U'=>∃Zn,(∃a' l' c',v=.slice a' l' c')/\Acc 78 2 v (x.flatMap encII++encII e) U'.M (Zn++(Z++w))/\(∀ae B,Acc 78 2 v (x.flatMap encII++encII e) ae (Zn++B)->∃M3:List Qw,M3.Sublist ae/\Acc 78 2 (.slice sa x.length sc) (x.flatMap encII) M3 B)/\L.frz.lg U',λ v L Y⟨Zn,hs,h1,h2,h3⟩z=>⟨Zn,hs,by rw[z.own];exact h1,h2,h3.trans z.lg⟩,λ v U'⟨Zn,hs,h1,h2,h3⟩=>h3,λ U' hC=>?_,λ v hv=>?_⟩
    .obtain⟨b33',e33,hb33,z⟩:=hC;cases e33
     conv=>whnf
     refine Mr (v:=.slice sa x.length sc) (cs:=x.flatMap encII) (new:=encII e) (M₀:=Z++w) KE rfl rfl (by rw[z.own];exact F) (.inr ⟨_,rfl,hb33.rd⟩) rfl (by simp[encII,Value.single]) (by rw[be];simp[encII];omega) (by simp[encII]) λ v' M' Zn h1 h2=>?_;refine⟨_,.refl _,Zn,?_,h1,h2,⟨z.imm,⟨_,(append_nil _).symm⟩,z.tok⟩⟩;obtain⟨ta,tl,tc,e1,-⟩:=Acc.src (U:={ U' with M:=M' }) h1;exact⟨ta,tl,tc,e1⟩
    obtain⟨_,Zn,⟨va,vl,vc,rfl⟩,-⟩:=hv
    conv=>whnf
    rintro U'⟨ba,-,h1,h2,h3⟩;exact⟨rfl,_,ba,T1,h1,h2,h3⟩
   rintro f' av Y⟨rfl,ak,Zn,a0,af,a5,ai⟩;rw[<- a0.ovr];clear a0;obtain⟨va,vl,vc,rfl,-⟩:=af.src;have K:U.frz.lg Y.frz:=ah.trans ai.frz2;have a9:(x++[e]).flatMap encII=x.flatMap encII++encII e:=by rw[flatMap_append];simp
   have W:=ih (x++[e]) (i+1) jj (.slice va vl vc) Y (Zn++Z) w (by rw[length_append];simp;omega) O1 (h0.trans K) (ab.lg K) (by rw[a9,append_assoc];exact af) (λ t q hq=>by
    have:=V t (e::q) (by
     rw[getElem?_append_left (by rw[length_map];exact(List.getElem?_eq_some_iff.1 hq).1),getElem?_map,hq];rfl)
    rw[this];simp) (a7 jj ⟨L.I,w,L.tok⟩ ⟨Y.I,w,Y.tok⟩ ⟨ai.imm,rfl,ai.tok⟩ hI)
   have W:=W.post (R':=λ v U'=>(v=.bool false/\Y.frz.lg U'.frz/\∃G,Acc 78 2 (.slice sa x.length sc) (x.flatMap encII) U'.M (Z++G)/\I (jj+(TM.parts (l.drop (i+1)) m).length) ⟨U'.I,G,U'.tok⟩)\/(v=.bool true/\∃X' w,U'.M=X'++w/\E ⟨U'.I,w,U'.tok⟩/\∀x o,Y.I x=some o->U'.I x=some o)) λ v U' hv=>by
    rcases hv with⟨rfl,hl,G,ha,ao⟩|h
    .rw[a9,append_assoc]at ha;obtain⟨M3,a8,bd⟩:=a5 _ _ ha;exact⟨_,Z5 a8,.inl ⟨rfl,hl,G,bd,ao⟩⟩
    .exact⟨U',.refl _,.inr h⟩
   refine⟨KU.any,W.mono ?_⟩;rintro v U3 (⟨rfl,hl,G,ha,ao⟩|⟨rfl,X',G,bb,hE,ag⟩) -
   .conv=>whnf
    intro a' H;refine⟨by rw[H.size,Q.size],_,H.get,?_⟩;rw[H.ds];clear H Q;refine⟨a1,rfl,(i+1,jj+(TM.parts (l.drop (i+1)) m).length),T1,⟨K.trans hl,by show i+1<=l.length;omega,⟨G,ha,ao⟩,λ t q hq=>?_,by show jj+(TM.parts (l.drop (i+1)) m).length+(TM.parts (l.drop (i+1)) (m+1)).length=_;omega⟩,L1⟩;show ps[jj+(TM.parts (l.drop (i+1)) m).length+t]?=_;rw[Nat.add_assoc];refine V _ q ?_;rw[getElem?_append_right (by rw[length_map];omega),length_map,Nat.add_sub_cancel_left];exact hq
   .conv=>whnf
    intro a' H;refine⟨by rw[H.size,Q.size],_,H.get,?_⟩;rw[H.ds];clear H Q
    repeat refine⟨rfl,?_⟩
    conv=>whnf
    exact .inr ⟨rfl,X',G,bb,hE,λ x o hx=>ag x o (K.imm x o hx)⟩
  .have hge:l.length<=i:=by simpa using hc
   rw[M9 hge,length_nil,Nat.add_zero]at P
   repeat refine⟨rfl,?_⟩
   conv=>whnf
   exact .inl ⟨rfl,ah,w,F,by rw[<- P];exact hI⟩
set_option maxHeartbeats 1000000 in
def zQ(l:List Int)(hl:l.length<=1000)(aj:Nat)(hm:aj<=1000)(g:FuncId)(first am:Array Value)(hg:(prog.funcs[g]?.any λ fd=>fd.body.isSome&&fd.name != "runtime.NumGoroutine")=true){bm bt bl bn:Nat}{ps:List (List Int)}{I:Nat->Qa T->Prop}{E:Qa T->Prop}{U₀:Qa T}
  (a7:∀k L Y,L.le Y->I k L->I k Y) (bj:P6 S g first am Z1 1 ps I E U₀) :
  ∀(m:Nat)(x:List Int)(i j:Nat)(xv:Value)(U:Qa T)(Z Mc:List Qw),x.length+m=aj->i<=l.length->U₀.frz.lg U.frz->Pl U l aj g first am bm bt bl bn->Acc 3 1 xv (x.flatMap Z1) U.M (Z++Mc)->(∀(i':Nat)q,(TM.parts (l.drop i) m)[i']?=some q->ps[j+i']?=some (x++q))->I j ⟨U.I,Mc,U.tok⟩ ->
   Qb S 102 #[xv,.int .i64 i,.pointer (some ⟨bm,0,none⟩),.pointer (some ⟨bt,0,none⟩),.pointer (some ⟨bl,0,none⟩),.pointer (some ⟨bn,0,none⟩)]
    (λ v U'=>(v=.bool false/\U.frz.lg U'.frz/\∃w,Acc 3 1 xv (x.flatMap Z1) U'.M (Z++w)/\I (j+(TM.parts (l.drop i) m).length) ⟨U'.I,w,U'.tok⟩)\/(v=.bool true/\∃X' w,U'.M=X'++w/\E ⟨U'.I,w,U'.tok⟩/\∀x o,U.I x=some o->U'.I x=some o)) U:=by
 intro m
 induction m with
 |zero=>
  intro x i j xv U Z Mc bk hi h0 ab F V hI;obtain⟨sa,sl,sc,rfl,aq,a6⟩:=F.src;have au:x.length=sl:=by have e:=(Q1 (f:=Z1) (n:=1) (λ _=>rfl) x).symm.trans aq;omega
  subst au
  obtain⟨A,hA⟩:∃A,U.M=A++(Z++Mc):=by
   rcases F with⟨_,_,hM⟩|⟨b,c,len,cap,_,_,_,_,hM,_⟩
   .exact⟨[],hM⟩
   .exact⟨[_],hM⟩
  refine Qb.of (args:=[_,_,_,_,_,_]) KQ Qe S1 ?_;refine⟨_,ab.m.sees3 (o:=0) rfl,?_⟩
  repeat refine⟨rfl,?_⟩
  conv=>whnf
  apply Qd<;>intro hc
  .refine⟨_,ab.t.sees3 (o:=0) rfl,λ v U'=>∃a' al,v=.slice a' x.length al/\Qy U'.frz a' x.length 1 x (λ x vs=>vs=Z1 x)/\(∀ad,a'=some ad->ad.spot=none)/\x.length<=al,λ v L Y⟨a',c',e,h,s⟩z=>⟨a',c',e,h.lg z.lg.frz2 λ _ _ h=>h,s⟩,λ U' z hC=>?_,λ v hv=>?_⟩
   .refine⟨PZ.any,(Ah sa sc x (Src.lg' a6 z.lg) O1).mono ?_⟩;rintro v U''⟨hv,a3⟩-;exact⟨U'',.refl _,hv,a3⟩
   obtain⟨_,-,-,a',c',rfl,-⟩:=hv
   conv=>whnf
   intro L aa hC;obtain⟨-,a2,c2,e2,hr,hs⟩:=hC;cases e2;have a4:ps[j]?=some x:=by have:=V 0 [] (by rw[PQ];rfl);simpa using this
   have ax:L.M=(A++Z)++Mc:=by rw[aa.own,hA,append_assoc]
   refine⟨hg,(bj j x a' c' L (A++Z) Mc a4 (h0.trans aa.lg.frz2) hr hs ax (a7 j ⟨U.I,Mc,U.tok⟩ ⟨L.I,Mc,L.tok⟩ ⟨aa.imm,rfl,aa.tok⟩ hI)).mono ?_⟩;rintro v Y (⟨rfl,ah,w,X,aw⟩|⟨rfl,X',w,X,hE,ag⟩) -
   .repeat refine⟨rfl,?_⟩
    conv=>whnf
    refine .inl ⟨rfl,aa.lg.frz2.trans ah,w,?_,by rw[PQ];exact aw⟩;rcases F with⟨e1,g2,hM⟩|⟨b,c,len,cap,e1,g1,g2,g3,hM,g5⟩
    .refine .inl ⟨e1,g2,?_⟩
     have:A=[]:=by
      rw[hM]at hA;exact self_eq_append_left.1 hA
     rw[X,this];rfl
    .refine .inr ⟨b,c,len,cap,e1,g1,g2,g3,?_,g5⟩
     have:A=[.obj b (.cells c 3 (0,0))]:=by
      rw[hM]at hA;exact(append_cancel_right (show[Qw.obj b (.cells c 3 (0,0))]++(Z++Mc)=A++(Z++Mc) from hA)).symm
     rw[X,this,append_assoc];rfl
   .repeat refine⟨rfl,?_⟩
    conv=>whnf
    exact .inr ⟨rfl,X',w,X,hE,λ x o hx=>ag x o (aa.imm x o hx)⟩
  .simp at hc;omega
 |succ m ih=>
  intro x i j xv U Z Mc bk hi h0 ab F V hI;obtain⟨sa,sl,sc,rfl,aq,-⟩:=F.src;have au:x.length=sl:=by have e:=(Q1 (f:=Z1) (n:=1) (λ _=>rfl) x).symm.trans aq;omega
  subst au;have be:(x.flatMap Z1).length=x.length*1:=Q1 (f:=Z1) (λ _=>rfl) x;refine Qb.of (args:=[_,_,_,_,_,_]) KQ Qe S1 ?_;refine⟨_,ab.m.sees3 (o:=0) rfl,?_⟩
  repeat refine⟨rfl,?_⟩
  conv=>whnf
  apply Qd<;>intro hc
  .simp at hc;omega
  clear hc
  refine⟨Nat×Nat,λ y=>[(0,.slice sa x.length sc),(2,.pointer (some ⟨bm,0,none⟩)),(3,.pointer (some ⟨bt,0,none⟩)),(4,.pointer (some ⟨bl,0,none⟩)),(5,.pointer (some ⟨bn,0,none⟩)),(9,.int .i64 y.1)],
   λ y U'=>U.frz.lg U'.frz/\y.1<=l.length/\(∃w,Acc 3 1 (.slice sa x.length sc) (x.flatMap Z1) U'.M (Z++w)/\I y.2 ⟨U'.I,w,U'.tok⟩)/\(∀(i':Nat)q,(TM.parts (l.drop y.1) (m+1))[i']?=some q->ps[y.2+i']?=some (x++q))/\y.2+(TM.parts (l.drop y.1) (m+1)).length=j+(TM.parts (l.drop i) (m+1)).length,
   λ y=>l.length-y.1,(i,j),T1,⟨⟨λ _ _ h=>h,⟨[],rfl⟩,rfl⟩,hi,⟨Mc,F,hI⟩,V,rfl⟩,?_⟩
  rintro⟨i,jj⟩f L⟨ah,hi,⟨w,F,hI⟩,V,P⟩;simp only at hi V P hI;have an:=ab.lg ah;obtain⟨la,lc,ay,ap⟩:=an.l;have a1:Ze ((i:Int)+1):=I1
  refine⟨_,ay.sees3 (o:=0) rfl,?_⟩
  repeat refine⟨rfl,?_⟩
  conv=>whnf
  apply Qd<;>intro hc
  .have hlt:i<l.length:=by simpa using hc
   obtain⟨ad,e,vs,hx,rfl,bo,rfl,-,bi⟩:=Qy.at ap hlt;have bh:=Fa (m:=m) hx;rw[bh]at V P;rw[length_append,length_map]at P;have bg:Zf L.frz bn _:=an.n.imI λ _ _ h=>h;have bf:Zf L.frz bl _:=ay.imI λ _ _ h=>h
   conv=>whnf
   intro ac Q
   refine D8 (mu:=[1006]) (ops:=Pw Tryz.f102 6) (id:=6) Q [7,8] [[0,1,2,3,4,5,6,9,10,7,8]] [11] FW R2 Qe K1 K1 K1 K1 K1
    (λ f' av U'=>av=[]/\∃(ak:Value)(Zn:List Qw),XS f' [(0,.slice sa x.length sc),(2,.pointer (some ⟨bm,0,none⟩)),(3,.pointer (some ⟨bt,0,none⟩)),(4,.pointer (some ⟨bl,0,none⟩)),(5,.pointer (some ⟨bn,0,none⟩)),(9,.int .i64 i),(26,.func (.func 102) #[] #[.pointer (some ⟨bm,0,none⟩),.pointer (some ⟨bt,0,none⟩),.pointer (some ⟨bl,0,none⟩),.pointer (some ⟨bn,0,none⟩)]),(34,ak),(36,.int .i64 ((i:Int)+1))]/\Acc 3 1 ak (x.flatMap Z1++Z1 e) U'.M (Zn++(Z++w))/\(∀ae B,Acc 3 1 ak (x.flatMap Z1++Z1 e) ae (Zn++B)->∃M3:List Qw,M3.Sublist ae/\Acc 3 1 (.slice sa x.length sc) (x.flatMap Z1) M3 B)/\L.frz.lg U') ?_ ?_
   .intro l' hl';simp only[FW,mem_cons,not_mem_nil,or_false]at hl';subst hl';refine⟨_,bg.sees3 (o:=0) rfl,_,bf.sees3 (o:=0) rfl,ad,i,⟨rfl,rfl,hlt⟩,_,bi 0 _ rfl,a1,λ v U'=>∃N,v=.slice (some ⟨N,0,none⟩) 1 1/\Zf U' N (Z1 e).toArray/\L.le U',λ v L Y⟨N,e1,hb,hl⟩z=>⟨N,e1,hb.le z,hl.trans z⟩,λ v U'⟨N,e1,hb,hl⟩=>⟨hl.imm,⟨_,(append_nil _).symm⟩,hl.tok⟩,λ U' hC=>?_,λ v hv=>?_⟩
    .have z:=hC
     conv=>whnf
     intro N az;exact Zl az λ U3 bc hb=>⟨U3,.refl _,N,rfl,hb,Qa.le.trans z bc⟩
    obtain⟨_,N,rfl,-⟩:=hv;refine⟨λ v U'=>∃Zn,(∃a' l' c',v=.slice a' l' c')/\Acc 3 1 v (x.flatMap Z1++Z1 e) U'.M (Zn++(Z++w))/\(∀ae B,Acc 3 1 v (x.flatMap Z1++Z1 e) ae (Zn++B)->∃M3:List Qw,M3.Sublist ae/\Acc 3 1 (.slice sa x.length sc) (x.flatMap Z1) M3 B)/\L.frz.lg U',λ v L Y⟨Zn,hs,h1,h2,h3⟩z=>⟨Zn,hs,by rw[z.own];exact h1,h2,h3.trans z.lg⟩,λ v U'⟨Zn,hs,h1,h2,h3⟩=>h3,λ U' hC=>?_,λ v hv=>?_⟩
    .obtain⟨b33',e33,hb33,z⟩:=hC;cases e33
     conv=>whnf
     refine Mr (v:=.slice sa x.length sc) (cs:=x.flatMap Z1) (new:=Z1 e) (M₀:=Z++w) HA rfl rfl (by rw[z.own];exact F) (.inr ⟨_,rfl,hb33.rd⟩) rfl (by simp[Z1,Value.single]) (by rw[be];simp[Z1];omega) (by simp[Z1]) λ v' M' Zn h1 h2=>?_;refine⟨_,.refl _,Zn,?_,h1,h2,⟨z.imm,⟨_,(append_nil _).symm⟩,z.tok⟩⟩;obtain⟨ta,tl,tc,e1,-⟩:=Acc.src (U:={ U' with M:=M' }) h1;exact⟨ta,tl,tc,e1⟩
    obtain⟨_,Zn,⟨va,vl,vc,rfl⟩,-⟩:=hv
    conv=>whnf
    rintro U'⟨ba,-,h1,h2,h3⟩;exact⟨rfl,_,ba,T1,h1,h2,h3⟩
   rintro f' av Y⟨rfl,ak,Zn,a0,af,a5,ai⟩;rw[<- a0.ovr];clear a0;obtain⟨va,vl,vc,rfl,-⟩:=af.src;have K:U.frz.lg Y.frz:=ah.trans ai.frz2;have a9:(x++[e]).flatMap Z1=x.flatMap Z1++Z1 e:=by rw[flatMap_append];simp
   have W:=ih (x++[e]) (i+1) jj (.slice va vl vc) Y (Zn++Z) w (by rw[length_append];simp;omega) O1 (h0.trans K) (ab.lg K) (by rw[a9,append_assoc];exact af) (λ t q hq=>by
    have:=V t (e::q) (by
     rw[getElem?_append_left (by rw[length_map];exact(List.getElem?_eq_some_iff.1 hq).1),getElem?_map,hq];rfl)
    rw[this];simp) (a7 jj ⟨L.I,w,L.tok⟩ ⟨Y.I,w,Y.tok⟩ ⟨ai.imm,rfl,ai.tok⟩ hI)
   have W:=W.post (R':=λ v U'=>(v=.bool false/\Y.frz.lg U'.frz/\∃G,Acc 3 1 (.slice sa x.length sc) (x.flatMap Z1) U'.M (Z++G)/\I (jj+(TM.parts (l.drop (i+1)) m).length) ⟨U'.I,G,U'.tok⟩)\/(v=.bool true/\∃X' w,U'.M=X'++w/\E ⟨U'.I,w,U'.tok⟩/\∀x o,Y.I x=some o->U'.I x=some o)) λ v U' hv=>by
    rcases hv with⟨rfl,hl,G,ha,ao⟩|h
    .rw[a9,append_assoc]at ha;obtain⟨M3,a8,bd⟩:=a5 _ _ ha;exact⟨_,Z5 a8,.inl ⟨rfl,hl,G,bd,ao⟩⟩
    .exact⟨U',.refl _,.inr h⟩
   refine⟨KQ.any,W.mono ?_⟩;rintro v U3 (⟨rfl,hl,G,ha,ao⟩|⟨rfl,X',G,bb,hE,ag⟩) -
   .conv=>whnf
    intro a' H;refine⟨by rw[H.size,Q.size],_,H.get,?_⟩;rw[H.ds];clear H Q;refine⟨a1,rfl,(i+1,jj+(TM.parts (l.drop (i+1)) m).length),T1,⟨K.trans hl,by show i+1<=l.length;omega,⟨G,ha,ao⟩,λ t q hq=>?_,by show jj+(TM.parts (l.drop (i+1)) m).length+(TM.parts (l.drop (i+1)) (m+1)).length=_;omega⟩,L1⟩;show ps[jj+(TM.parts (l.drop (i+1)) m).length+t]?=_;rw[Nat.add_assoc];refine V _ q ?_;rw[getElem?_append_right (by rw[length_map];omega),length_map,Nat.add_sub_cancel_left];exact hq
   .conv=>whnf
    intro a' H;refine⟨by rw[H.size,Q.size],_,H.get,?_⟩;rw[H.ds];clear H Q
    repeat refine⟨rfl,?_⟩
    conv=>whnf
    exact .inr ⟨rfl,X',G,bb,hE,λ x o hx=>ag x o (K.imm x o hx)⟩
  .have hge:l.length<=i:=by simpa using hc
   rw[M9 hge,length_nil,Nat.add_zero]at P
   repeat refine⟨rfl,?_⟩
   conv=>whnf
   exact .inl ⟨rfl,ah,w,F,by rw[<- P];exact hI⟩
end Go.Proofs
namespace Go.TM
variable{T:Type}{P:Program}{S:Sys P T}{U U':Qa T}
def WP{α:Type}(l:List α)(p:List α->Bool):Nat->Nat->Option (List α)
 |_,0=>none
 |m,n+1=>match(TM.parts l m).find? p with
  |some x=>some x
  |none=>WP l p (m+1) n
def B1{α:Type}(l:List α)(p:List α->Bool)(m n:Nat):WP l p m (n+1)=match(TM.parts l m).find? p with
  |some x=>some x
  |none=>WP l p (m+1) n:=rfl
end Go.TM
namespace Go.Proofs
open Go.TM
variable{T:Type}{S:TM.Sys prog T}{U:Qa T}
attribute [local irreducible] Qb Zh Wh
def zA(l:List (Int×Int))(la:Option Addr)(lc:Nat)(Q:Qy U.frz la l.length 2 l (λ x vs=>vs=encII x))(hl:l.length<=1000)(e:Nat)(hm:e<=1000)(g:FuncId)(first z:Array Value)(hg:(prog.funcs[g]?.any λ fd=>fd.body.isSome&&fd.name != "runtime.NumGoroutine")=true){I:Nat->Qa T->Prop}{E:Qa T->Prop}
  (Z:∀k U1 U2,U1.le U2->I k U1->I k U2) (ae:P6 S g first z encII 2 (TM.parts l e) I E U) (hI:I 0 U) :
  Qb S 88 #[.agg #[.slice la l.length lc],.int .i64 e,.func (.func g) first z] (λ v U'=>(v=.bool false/\U.frz.lg U'.frz/\I (TM.parts l e).length U')\/(v=.bool true/\E U'/\∀x o,U.I x=some o->U'.I x=some o)) U:=by
 refine Qb.post (R:=λ v U'=>(v=.bool false/\U.frz.lg U'.frz/\I (TM.parts l e).length U')\/(v=.bool true/\∃X' w,U'.M=X'++w/\E ⟨U'.I,w,U'.tok⟩/\∀x o,U.I x=some o->U'.I x=some o)) (Qb.of (args:=[_,_,_]) EG Qe S1 ?_) λ v U' hv=>?_
 .conv=>whnf
  intro b3 U1 ab L;have L:Zf U1 b3 #[.slice la l.length lc]:=L
  conv=>whnf
  intro b4 U2 V N;have N:Zf U2 b4 #[.int .i64 e]:=N
  conv=>whnf
  intro b5 U3 K P;have P:Zf U3 b5 #[.func (.func g) first z]:=P
  conv=>whnf
  intro b7 ad;refine⟨_,.refl _,rfl,Zu (vs:=[.func (.func 112) #[] #[.pointer (some ⟨b4,0,none⟩),.pointer (some ⟨b5,0,none⟩),.pointer (some ⟨b3,0,none⟩),.pointer (some ⟨b7,0,none⟩)]]) ad rfl (by simp[Value.single]) λ U4 G X=>?_⟩;have F:=((ab.trans V).trans K).trans G;have ac:Pm U4 l e g first z b4 b5 b3 b7:=⟨N.le (K.trans G),P.le G,⟨la,lc,L.le ((V.trans K).trans G),Q.lg F.lg.frz2 λ _ _ h=>h⟩,X⟩
  refine⟨_,X.sees3 (o:=0) rfl,KU.any,(zR l hl e hm g first z hg Z ae e [] 0 0 (.slice none 0 0) U4 [] U4.M S1 O1 F.lg.frz2 ac .nil (λ i' q hq=>by rw[Nat.zero_add];exact hq) (Z 0 U U4 F hI)).mono ?_⟩;rintro v U5 (⟨rfl,Y,w,W,H⟩|⟨rfl,X',w,aa,hE,B⟩) -
  .rcases W with⟨_,_,hM⟩|⟨b,c,len,cap,e1,_⟩
   .rw[Nat.zero_add]at H
    repeat refine⟨rfl,?_⟩
    conv=>whnf
    refine .inl ⟨rfl,F.lg.frz2.trans Y,?_⟩;have:U5.M=w:=hM;obtain⟨i5,m5,t5⟩:=U5;simp only at this;subst this;exact H
   .cases e1
  .repeat refine⟨rfl,?_⟩
   conv=>whnf
   exact .inr ⟨rfl,X',w,aa,hE,λ x o hx=>B x o (F.imm x o hx)⟩
 .rcases hv with h|⟨rfl,X',w,hM,hE,B⟩
  .exact⟨U',.refl _,.inl h⟩
  .exact⟨{ U' with M:=w },Z5 (by rw[hM];exact sublist_append_right ..),.inr ⟨rfl,hE,B⟩⟩
def zz(l:List Int)(la:Option Addr)(lc:Nat)(Q:Qy U.frz la l.length 1 l (λ x vs=>vs=Z1 x))(hl:l.length<=1000)(e:Nat)(hm:e<=1000)(g:FuncId)(first z:Array Value)(hg:(prog.funcs[g]?.any λ fd=>fd.body.isSome&&fd.name != "runtime.NumGoroutine")=true){I:Nat->Qa T->Prop}{E:Qa T->Prop}
  (Z:∀k U1 U2,U1.le U2->I k U1->I k U2) (ae:P6 S g first z Z1 1 (TM.parts l e) I E U) (hI:I 0 U) :
  Qb S 68 #[.agg #[.slice la l.length lc],.int .i64 e,.func (.func g) first z] (λ v U'=>(v=.bool false/\U.frz.lg U'.frz/\I (TM.parts l e).length U')\/(v=.bool true/\E U'/\∀x o,U.I x=some o->U'.I x=some o)) U:=by
 refine Qb.post (R:=λ v U'=>(v=.bool false/\U.frz.lg U'.frz/\I (TM.parts l e).length U')\/(v=.bool true/\∃X' w,U'.M=X'++w/\E ⟨U'.I,w,U'.tok⟩/\∀x o,U.I x=some o->U'.I x=some o)) (Qb.of (args:=[_,_,_]) Et Qe S1 ?_) λ v U' hv=>?_
 .conv=>whnf
  intro b3 U1 ab L;have L:Zf U1 b3 #[.slice la l.length lc]:=L
  conv=>whnf
  intro b4 U2 V N;have N:Zf U2 b4 #[.int .i64 e]:=N
  conv=>whnf
  intro b5 U3 K P;have P:Zf U3 b5 #[.func (.func g) first z]:=P
  conv=>whnf
  intro b7 ad;refine⟨_,.refl _,rfl,Zu (vs:=[.func (.func 102) #[] #[.pointer (some ⟨b4,0,none⟩),.pointer (some ⟨b5,0,none⟩),.pointer (some ⟨b3,0,none⟩),.pointer (some ⟨b7,0,none⟩)]]) ad rfl (by simp[Value.single]) λ U4 G X=>?_⟩;have F:=((ab.trans V).trans K).trans G;have ac:Pl U4 l e g first z b4 b5 b3 b7:=⟨N.le (K.trans G),P.le G,⟨la,lc,L.le ((V.trans K).trans G),Q.lg F.lg.frz2 λ _ _ h=>h⟩,X⟩
  refine⟨_,X.sees3 (o:=0) rfl,KQ.any,(zQ l hl e hm g first z hg Z ae e [] 0 0 (.slice none 0 0) U4 [] U4.M S1 O1 F.lg.frz2 ac .nil (λ i' q hq=>by rw[Nat.zero_add];exact hq) (Z 0 U U4 F hI)).mono ?_⟩;rintro v U5 (⟨rfl,Y,w,W,H⟩|⟨rfl,X',w,aa,hE,B⟩) -
  .rcases W with⟨_,_,hM⟩|⟨b,c,len,cap,e1,_⟩
   .rw[Nat.zero_add]at H
    repeat refine⟨rfl,?_⟩
    conv=>whnf
    refine .inl ⟨rfl,F.lg.frz2.trans Y,?_⟩;have:U5.M=w:=hM;obtain⟨i5,m5,t5⟩:=U5;simp only at this;subst this;exact H
   .cases e1
  .repeat refine⟨rfl,?_⟩
   conv=>whnf
   exact .inr ⟨rfl,X',w,aa,hE,λ x o hx=>B x o (F.imm x o hx)⟩
 .rcases hv with h|⟨rfl,X',w,hM,hE,B⟩
  .exact⟨U',.refl _,.inl h⟩
  .exact⟨{ U' with M:=w },Z5 (by rw[hM];exact sublist_append_right ..),.inr ⟨rfl,hE,B⟩⟩
def Dg(S:TM.Sys prog T)(g:FuncId)(first b:Array Value)(p:List Int->Bool)(l:List Int)(U₀:Qa T):Prop:=
 ∀(q:List Int)(a:Option Addr)(cap:Nat)(U:Qa T),q.Sublist l->(∃X e,(∀x o,U₀.I x=some o->e x=some o)/\U=⟨e,X++U₀.M,U₀.tok⟩)->Z0 U.frz a q.length q->Qb S g (first.toList++[Value.slice a q.length cap]++b.toList).toArray (λ v U'=>v=.bool (p q)/\U'=U) U
def ye{a:Option Addr}{l:List Int}(h:Qy U a l.length 1 l (λ x vs=>vs=Z1 x)):Z0 U a l.length l:=by
 refine⟨rfl,λ i x E=>?_⟩;obtain⟨w,vs,e,B,rfl,_,z⟩:=h.2 i x E;have b:=z 0 (.int .i64 x) rfl;obtain⟨bb,F,G⟩:=w;cases B;refine⟨_,e,rfl,?_⟩;rw[Qp,Qp,Nat.add_zero]at b;rw[Qp];exact b
set_option maxHeartbeats 1000000 in
def FM(l:List Int)(la:Option Addr)(lc:Nat)(ai:Qy U.frz la l.length 1 l (λ x vs=>vs=Z1 x))(hl:l.length<=1000)(b:Nat)(hm:b<=900)(g:FuncId)(first z:Array Value)(hg:(prog.funcs[g]?.any λ fd=>fd.body.isSome&&fd.name != "runtime.NumGoroutine")=true)(p:List Int->Bool)
  (ax:Dg S g first z p l U) :
  Qb S 37 #[.slice la l.length lc,.int .i64 b,.func (.func g) first z] (λ v U'=>(∃v1,v=.tuple #[v1,.bool (WP l p 0 (b+1)).isSome]/\JY U'.frz v1 ((WP l p 0 (b+1)).getD []))/\U.le U') U:=by
 refine Qb.grown (R:=λ v U'=>∃v1,v=.tuple #[v1,.bool (WP l p 0 (b+1)).isSome]/\JY U' v1 ((WP l p 0 (b+1)).getD [])) (λ v P W hl⟨v1,e,h1⟩=>⟨v1,e,h1.lg hl⟩) (Qb.of (args:=[_,_,_]) SB Qe S1 ?_)
 conv=>whnf
 intro b5 P F ag;have ag:Zf P b5 #[.func (.func g) first z]:=ag;refine⟨I1,?_⟩
 refine⟨Nat,λ i=>[(0,.slice la l.length lc),(5,.pointer (some ⟨b5,0,none⟩)),(11,.int .i64 ((b:Int)+1)),(12,.int .i64 i)],
  λ i U'=>P.frz.lg U'.frz/\(∃X,U'.M=X++U.M)/\i<=b+1/\WP l p 0 (b+1)=WP l p i (b+1-i),λ i=>b+1-i,0,T1,⟨⟨λ _ _ h=>h,⟨[],rfl⟩,rfl⟩,⟨[],by rw[F.own];rfl⟩,O1,rfl⟩,?_⟩
 rintro i f W⟨ab,⟨X,hX⟩,hi,w⟩;have ap:Ze ((i:Int)+1):=I1
 repeat refine⟨rfl,?_⟩
 conv=>whnf
 apply Qd<;>intro hc
 .have hlt:i<b+1:=by simp at hc;omega
  rw[show b+1-i=(b+1-(i+1))+1 by omega,B1 l p i]at w
  conv=>whnf
  intro Q a0;refine⟨_,.refl _,?_⟩;have ad:P.frz.lg (W.put Q (.cells #[.slice none 0 0] 22)).frz:=ab;have al:Zf (W.put Q (.cells #[.slice none 0 0] 22)) b5 #[.func (.func g) first z]:=ag.imI ab.imm
  let ps:=TM.parts l i
  let J:Nat->Qa T->Prop:=λ k U'=>P.frz.lg U'.frz/\(∃V,U'.M=.obj Q (.cells #[V] 22 (0,0))::(X++U.M))/\∀q∈ps.take k,p q=false
  let E:Qa T->Prop:=λ U'=>P.frz.lg U'.frz/\∃V q,U'.M=.obj Q (.cells #[V] 22 (0,0))::(X++U.M)/\JY U'.frz V q/\ps.find? p=some q
  have hJ:∀k P W,P.le W->J k P->J k W:=λ k s1 s2 am⟨h1,⟨V,hv⟩,h3⟩=>⟨h1.trans am.lg.frz2,⟨V,am.own.trans hv⟩,h3⟩
  have az:P6 S 69 #[] #[.pointer (some ⟨Q,0,none⟩),.pointer (some ⟨b5,0,none⟩)] Z1 1 ps J E (W.put Q (.cells #[.slice none 0 0] 22)):=by
   intro k q qa qc s Xs Mc hq h0 hr ay hM⟨Z,⟨V,af⟩,aj⟩;have af:Mc=.obj Q (.cells #[V] 22 (0,0))::(X++U.M):=af;subst af;have ak:Zf s b5 #[.func (.func g) first z]:=al.imI h0.imm;have ac:=ye hr;have av:=(GE.1 (mem_of_getElem? hq)).1;refine Qb.of (args:=[_,_,_]) Eu Qe S1 ?_;refine⟨rfl,Jt (vs:=[.slice qa q.length qc]) Xs hM rfl (by simp[Value.single]) λ s1 Y ao aa=>?_⟩;have ah:Zf s1 b5 #[.func (.func g) first z]:=ak.imI λ x o N=>by rw[Y];exact N
   have hz:s.frz.lg s1.frz:=⟨λ x o N=>by show s1.I x=_;rw[Y];exact N,⟨[],rfl⟩,ao⟩
   have ae:s1.tok=U.tok:=by
    have e1:s.tok=P.tok:=Z.tok;rw[ao,e1,F.tok]
   refine⟨_,ah.sees3 (o:=0) rfl,hg,(ax q qa qc s1 av ⟨Xs++(.obj Q (.cells [.slice qa q.length qc].toArray 22 (0,0))::X),s1.I,λ x o N=>by rw[Y];exact Z.imm x o (F.imm x o N),by
    obtain⟨i1,m1,t1⟩:=s1;simp only at aa ae;subst ae;rw[aa];simp⟩ (ac.lg hz)).mono ?_⟩
   rintro _ s'⟨rfl,aw⟩-;obtain rfl:=aw.symm;cases an:p q with
   |false=>
    repeat refine⟨rfl,?_⟩
    conv=>whnf
    refine .inl ⟨rfl,hz,_,aa,⟨Z.trans hz,⟨_,rfl⟩,λ q' L=>?_⟩⟩;rw[Z3 hq,mem_append]at L;rcases L with L|L
    .exact aj q' L
    .rw[mem_singleton.1 L];exact an
   |true=>
    repeat refine⟨rfl,?_⟩
    conv=>whnf
    refine .inr ⟨rfl,_,_,aa,⟨Z.trans hz,_,q,rfl,⟨qa,qc,rfl,ac.lg hz,ay.2⟩,?_⟩,λ x o N=>by rw[Y];exact N⟩;rw[find?_eq_some_iff_getElem];obtain⟨hk,aq⟩:=List.getElem?_eq_some_iff.1 hq;refine⟨an,k,hk,aq,λ j hj=>?_⟩;have:=aj ps[j] (mem_take_iff_getElem.2 ⟨j,O1,rfl⟩);simp[this]
  refine⟨Et.any,(zz (U:=W.put Q (.cells #[.slice none 0 0] 22)) l la lc (ai.lg (F.lg.frz2.trans ad) λ _ _ h=>h) hl i O1 69 #[] #[.pointer (some ⟨Q,0,none⟩),.pointer (some ⟨b5,0,none⟩)] Eu.any hJ az ⟨ad,⟨_,by show _::W.M=_;rw[hX]⟩,S1⟩).mono ?_⟩;rintro v U3 (⟨rfl,-,B,⟨V,K⟩,au⟩|⟨rfl,⟨B,V,q,K,⟨qa,qc,rfl,ac⟩,G⟩,-⟩) -
  .have H:ps.find? p=none:=by
    rw[find?_eq_none];intro q hq;rw[au q (by rw[take_length];exact hq)];simp
   have H:(TM.parts l i).find? p=none:=H;rw[H]at w
   repeat refine⟨rfl,?_⟩
   refine⟨ap,?_⟩
   conv=>whnf
   exact⟨rfl,i+1,T1,⟨B,⟨_::X,K⟩,O1,w⟩,L1⟩
  .have G:(TM.parts l i).find? p=some q:=G;rw[G]at w;simp only at w
   repeat refine⟨rfl,?_⟩
   refine⟨_,Q9 [] K 0 _ rfl,?_⟩
   repeat refine⟨rfl,?_⟩
   conv=>whnf
   rw[w];exact⟨⟨_,rfl,⟨qa,qc,rfl,ac⟩⟩,⟨λ x o N=>B.imm x o (F.imm x o N),⟨_::X,K⟩,B.tok.trans F.tok⟩⟩
 .have hge:i=b+1:=by simp at hc;omega
  subst hge;rw[Nat.sub_self,WP]at w
  repeat refine⟨rfl,?_⟩
  conv=>whnf
  rw[w];exact⟨⟨_,rfl,.nil⟩,⟨λ x o N=>ab.imm x o (F.imm x o N),⟨X,hX⟩,ab.tok.trans F.tok⟩⟩
end Go.Proofs
namespace Go.TM
variable{T:Type}{P:Program}{S:Sys P T}{U U':Qa T}
def JQ(a b:Int×Int):Int:=if a=b then 0 else if a.1<b.1\/a.1=b.1/\a.2<b.2 then -1 else 1
def QZ:List (Int×Int)->List (Int×Int)->Int
 |[],[]=>0
 |[],_::_=>-1
 |_::_,[]=>1
 |a::l,b::r=>if JQ a b≠0 then JQ a b else QZ l r
structure Bk.Srt(b:Bk)(n:Nat):Prop where
 s:∀c∈b.cs,XB c.af
 l:∀c∈b.cs,c.af.length<=n
def Nc{b:Int}:∀{l:List Int}{m:Int},m<b->J3 b (some m) l=0->(l.length:Int)<=b-1-m/\l.Pairwise (· < ·)/\∀x∈l,m<x
 |[],m,w,_=>⟨S3,.nil,S1⟩
 |n::l,m,w,h=>by
  rw[Wq]at h;split at h
  .rename_i hb;simp only[Ws,Bool.and_eq_true,decide_eq_true_eq]at hb;simp only at h;split at h
   .cases h
   .obtain⟨h1,h2,h3⟩:=Nc (l:=l) (m:=n) O1 h;refine⟨by rw[length_cons];omega,pairwise_cons.2 ⟨h3,h2⟩,λ x e=>?_⟩;rcases mem_cons.1 e with rfl|e
    .omega
    .have:=h3 x e;omega
  .cases h
def ub{b:Int}{l:List Int}(z:0<=b)(h:J3 b none l=0):(l.length:Int)<=b/\l.Pairwise (· < ·):=by
 cases l with
 |nil=>exact⟨by simpa using z,.nil⟩
 |cons n l=>
  rw[Wq]at h;split at h
  .rename_i hb';simp only[Ws,Bool.and_eq_true,decide_eq_true_eq]at hb';obtain⟨B,e,w⟩:=Nc (l:=l) (m:=n) O1 h;exact⟨by rw[length_cons];omega,pairwise_cons.2 ⟨w,e⟩⟩
  .cases h
def Bk.Ok.asc{b:Bk}(h:b.Ok){c:Cs}(w:c∈b.cs):c.af.length<=5/\c.af.Pairwise (· < ·):=by
 have B:b.nc<=5:=by have:=h.nc;unfold Bk.nc;omega
 obtain⟨z,e⟩:=ub (b:=b.nc) (by unfold Bk.nc;omega) (h.ri c w);exact⟨O1,e⟩
def Bk.Ok.srt{b:Bk}(h:b.Ok):b.Srt 5:=⟨λ c e=>(h.asc e).2.imp λ h=>Int.le_of_lt h,λ c e=>(h.asc e).1⟩
def Bk.Ok.sml{b:Bk}(h:b.Ok):b.Sml:=by
 have z:=h.nr;have B:=h.nc;refine⟨O1,O1,λ c e=>⟨?_,λ g w=>?_,?_⟩⟩
 .have:=h.gl c e;omega
 .have:=(h.gs c e g w).1;omega
 .have:=(h.asc e).1;omega
def Bk.Srt.sty{b:Bk}{n:Nat}(h:b.Srt n)(s:Int×Int)(B:s.1.toNat<b.cs.length):(b.sty s).Srt (n+1):=by
 have z:b.cas s.1.toNat∈b.cs:=by
  simp only[Bk.cas,getD_eq_getElem?_getD,getElem?_eq_getElem B,Option.getD_some];exact getElem_mem B
 refine⟨λ c e=>?_,λ c e=>?_⟩
 .rcases mem_or_eq_of_mem_set e with w|rfl
  .exact h.s c w
  .exact US _ _ (h.s _ z)
 .rcases mem_or_eq_of_mem_set e with w|rfl
  .have:=h.l c w;omega
  .have:=h.l _ z;show(ZD _ _).length<=_;rw[(KL _ _).length_eq];simp;omega
def Bk.sty_len(b:Bk)(s:Int×Int):(b.sty s).cs.length=b.cs.length:=by simp[Bk.sty]
def Bk.stys_snoc(b:Bk)(l:List (Int×Int))(s:Int×Int):b.stys (l++[s])=(b.stys l).sty s:=by simp[Bk.stys]
def Bk.stys_len(b:Bk)(l:List (Int×Int)):(b.stys l).cs.length=b.cs.length:=by
 induction l generalizing b with
 |nil=>rfl
 |cons s l e=>exact(e (b.sty s)).trans (b.sty_len s)
def Bk.stys_srt{b:Bk}{n:Nat}(h:b.Srt n):∀(l:List (Int×Int)),(∀s∈l,s.1.toNat<b.cs.length)->(b.stys l).Srt (n+l.length):=by
 intro l
 induction l generalizing b n with
 |nil=>exact λ _=>h
 |cons s l z=>
  intro w;have:=z (h.sty s (w s S1)) λ B e=>by rw[b.sty_len];exact w B (by simp[e])
  rw[length_cons,show n+(l.length+1)=n+1+l.length by omega];exact this
end Go.TM
namespace Go.Proofs
open Go.TM
variable{T:Type}{S:TM.Sys prog T}{U:Qa T}
attribute [local irreducible] Qb Zh Wh
def FK(h:BH)(b:Bk)(Z:Zp U.frz h b)(ab:b.cs.length<=1000):Qb S 38 #[h.v] (λ v U'=>J0 U'.frz v ((range b.cs.length).map λ(k:Nat)=>(k:Int))/\U.le U') U:=by
 refine Qb.ints (e:=3) (Qb.of (args:=[_]) SC Qe S1 ?_);have aa:=Z.cs.1
 repeat refine⟨rfl,?_⟩
 conv=>whnf
 intro B X F L;have L:Zf X B #[.slice h.ra h.rl h.rc,.slice h.ca h.cl h.cc]:=L;refine⟨_,L.sees3 (o:=1) rfl,Nat×Value,λ y=>[(3,y.2),(8,.int .i64 h.cl),(9,.int .i64 y.1)],λ y U'=>(∀x o,U.I x=some o->U'.I x=some o)/\U'.tok=U.tok/\Acc 3 1 y.2 (((range y.1).map λ(k:Nat)=>(k:Int)).map λ n=>.int .i64 n) U'.M U.M/\y.1<=h.cl,λ y=>h.cl-y.1,(0,.slice none 0 0),T1,⟨F.imm,F.tok,by rw[F.own];exact .nil,O1⟩,?_⟩;rintro⟨i,v⟩f Y⟨T,W,w,hi⟩;simp only at w hi;obtain⟨sa,sl,sc,rfl,ac,-⟩:=Acc.src (U:=Y) w;have P:Ze ((i:Int)+1):=I1
 repeat refine⟨rfl,?_⟩
 conv=>whnf
 apply Qd<;>intro V
 .have hlt:i<h.cl:=by simpa using V
  conv=>whnf
  intro K H;refine Zl H λ Q G z=>?_;have z:Zf Q K #[.int .i64 i]:=z
  conv=>whnf
  refine Wy (v:=.slice sa sl sc) (cs:=((range i).map λ(k:Nat)=>(k:Int)).map λ n=>.int .i64 n) (new:=[.int .i64 (i:Int)]) (M₀:=U.M) HA rfl rfl (by rw[G.own];exact w) (.inr ⟨_,rfl,z.rd⟩) rfl (by simp[Value.single]) S3 λ v' M' N _=>?_;have E:Acc 3 1 v' (((range (i+1)).map λ(k:Nat)=>(k:Int)).map λ n=>.int .i64 n) M' U.M:=by rw[range_succ,map_append,map_append];exact N
  obtain⟨ta,tl,tc,rfl,-,-⟩:=Acc.src (U:={ Q with M:=M' }) E;refine⟨P,?_⟩
  conv=>whnf
  exact⟨rfl,(i+1,.slice ta tl tc),T1,⟨λ x o h=>G.imm x o (T x o h),G.tok.trans W,E,by show i+1<=h.cl;omega⟩,L1⟩
 .have hge:i=b.cs.length:=by simp at V;omega
  subst hge
  repeat refine⟨rfl,?_⟩
  conv=>whnf
  exact⟨w,T,W⟩
def EL:GK prog 78 (Ov prog 78):=.of K1
def qZ(x y:Int×Int):Qb S 95 #[.agg #[.int .i64 x.1,.int .i64 x.2],.agg #[.int .i64 y.1,.int .i64 y.2]] (λ v U'=>v=.int .i64 (JQ x y)/\U'=U) U:=by
 obtain⟨a,b⟩:=x;obtain⟨c,d⟩:=y;refine Qb.pure' (Qb.of (args:=[_,_]) Eb Qe S1 ?_)
 repeat refine⟨rfl,?_⟩
 conv=>whnf
 intro N L I h;have h:Zf L N #[.int .i64 a,.int .i64 b]:=h
 conv=>whnf
 intro P M F w;have w:Zf M P #[.int .i64 c,.int .i64 d]:=w;have h:=h.le F;have z:=(I.trans F).lg;refine⟨_,⟨rfl,h.rd⟩,?_⟩;refine⟨_,⟨rfl,w.rd⟩,?_⟩
 conv=>whnf
 refine uK EL (vs:=[.int .i64 a,.int .i64 b]) (ws:=[.int .i64 c,.int .i64 d]) rfl rfl K1 K1 ?_
 have K:ZG [.int .i64 a,.int .i64 b] [.int .i64 c,.int .i64 d]=decide ((a,b)=(c,d)):=by
  simp[ZG,Gp,Prod.mk.injEq,Bool.decide_and];rfl
 rw[K];by_cases e:(a,b)=(c,d)
 .have B:JQ (a,b) (c,d)=0:=by unfold JQ;rw[if_pos e]
  rw[decide_eq_true e,B]
  repeat refine⟨rfl,?_⟩
  conv=>whnf
  exact z
 rw[decide_eq_false e];have Q:¬(a=c/\b=d):=λ⟨G,H⟩=>e (by rw[G,H]);refine⟨_,h.sees3 (o:=0) rfl,_,w.sees3 (o:=0) rfl,?_⟩
 repeat refine⟨rfl,?_⟩
 conv=>whnf
 apply Q7<;>intro E
 .have G:¬a<c:=by simpa using E
  refine⟨_,h.sees3 (o:=0) rfl,_,w.sees3 (o:=0) rfl,?_⟩
  repeat refine⟨rfl,?_⟩
  conv=>whnf
  apply Q7<;>intro E
  .have H:a=c:=by simpa using E
   refine⟨_,h.sees3 (o:=1) rfl,_,w.sees3 (o:=1) rfl,?_⟩
   repeat refine⟨rfl,?_⟩
   conv=>whnf
   apply Qd<;>intro E
   .have h3:b<d:=by simpa using E
    have B:JQ (a,b) (c,d) = -1:=by unfold JQ;rw[if_neg e,if_pos (.inr ⟨H,h3⟩)]
    rw[B]
    repeat refine⟨rfl,?_⟩
    conv=>whnf
    exact z
   .have h3:¬b<d:=by simpa using E
    have B:JQ (a,b) (c,d)=1:=by unfold JQ;rw[if_neg e,if_neg (by simp only;omega)]
    rw[B]
    repeat refine⟨rfl,?_⟩
    conv=>whnf
    exact z
  .have H:a≠c:=by simpa using E
   have B:JQ (a,b) (c,d)=1:=by unfold JQ;rw[if_neg e,if_neg (by simp only;omega)]
   rw[B]
   repeat refine⟨rfl,?_⟩
   conv=>whnf
   exact z
 .have G:a<c:=by simpa using E
  have B:JQ (a,b) (c,d) = -1:=by unfold JQ;rw[if_neg e,if_pos (.inl G)]
  rw[B]
  repeat refine⟨rfl,?_⟩
  conv=>whnf
  exact z
end Go.Proofs
namespace Go.TM
variable{T:Type}{P:Program}{S:Sys P T}{U U':Qa T}
def Qa.sees.mem{a:Addr}{v:Value}(h:U.sees a v)(e:∀x o,U.I x=some o->U'.I x=some o)(b:∀r∈U.M,r∈U'.M):U'.sees a v:=
 ⟨h.1,h.2.imp (λ⟨c,t,fr,x,y⟩=>⟨c,t,fr,x.imp (e _ _) (b _),y⟩) λ⟨t,n,x⟩=>⟨t,n,b _ x⟩⟩
def Z6.mem{a:Addr}{vs:List Value}(h:Z6 U a vs)(b:∀x o,U.I x=some o->U'.I x=some o)(e:∀r∈U.M,r∈U'.M):Z6 U' a vs:=λ i v w=>(h i v w).mem b e
def Qy.mem{a:Option Addr}{len n:Nat}{α:Type}{l:List α}{R:α->List Value->Prop}(h:Qy U a len n l R)(b:∀x o,U.I x=some o->U'.I x=some o)(w:∀r∈U.M,r∈U'.M):Qy U' a len n l R:=
 ⟨h.1,λ i x z=>let ⟨ad,vs,e,s,r,hl,hr⟩:=h.2 i x z;⟨ad,vs,e,s,r,hl,hr.mem b w⟩⟩
def Src.mem{a:Option Addr}{cs:List Value}(h:Src U a cs)(w:∀x o,U.I x=some o->U'.I x=some o)(z:∀r∈U.M,r∈U'.M):Src U' a cs:=h.imp id λ⟨b,e,r⟩=>⟨b,e,r.mem w z⟩
def QR.mem{h:BH}{b:Bk}{M₀:List Qw}(k:QR U h b M₀):∀r∈M₀,r∈U.M:=by
 obtain⟨ps,A,-,-,-,e⟩:=k.ex;intro r w;rw[e.mem_iff];simp[w]
def QR.imI{h:BH}{b:Bk}{M₀:List Qw}(k:QR U h b M₀)(w:∀x o,U.I x=some o->U'.I x=some o)(E:U'.tok=U.tok)(z:U'.M.Perm U.M):QR U' h b M₀:=
 have e:U.frz.lg U'.frz:=⟨w,⟨[],rfl⟩,E⟩
 let ⟨ps,A,h1,h2,h3,h4⟩:=k.ex
 ⟨⟨ps,A,h1,λ p B=>(h2 p B).lg e,h3,z.trans h4⟩,k.rs.lg e λ _ _ h=>h,k.rl,k.rn,k.rc⟩
def QR.pick{h:BH}{b:Bk}{o:Qw}{M₀:List Qw}(k:QR U h b (o::M₀)):∃X Y,U.M=X++o::Y/\(∀(U':Qa T)z,(∀x q,U.I x=some q->U'.I x=some q)->U'.tok=U.tok->U'.M=X++z::Y->QR U' h b (z::M₀))/\(X++Y).Sublist U.M/\QR { U with M:=X++Y } h b M₀:=by
 obtain⟨X,Y,e⟩:=append_of_mem (k.mem o S1);obtain⟨ps,A,B,E,G,L⟩:=k.ex
 have w:(X++Y).Perm (A++(ps.flatMap (·.2.F)++M₀)):=by
  have H:(o::(X++Y)).Perm U.M:=by rw[e];exact perm_middle.symm
  have K:(A++(ps.flatMap (·.2.F)++o::M₀)).Perm (o::(A++(ps.flatMap (·.2.F)++M₀))):=by
   rw[<- append_assoc,<- append_assoc];exact perm_middle
  exact(H.trans (L.trans K)).cons_inv
 refine⟨X,Y,e,λ U' z N Q P=>?_,?_,⟨⟨ps,A,B,λ p w=>(E p w).lg ⟨λ _ _ h=>h,⟨[],rfl⟩,rfl⟩,G,w⟩,k.rs.lg ⟨λ _ _ h=>h,⟨[],rfl⟩,rfl⟩ λ _ _ h=>h,k.rl,k.rn,k.rc⟩⟩
 .have hl:U.frz.lg U'.frz:=⟨N,⟨[],rfl⟩,Q⟩;refine⟨⟨ps,A,B,λ p w=>(E p w).lg hl,G,?_⟩,k.rs.lg hl λ _ _ h=>h,k.rl,k.rn,k.rc⟩;rw[P];refine perm_middle.trans ((w.cons z).trans ?_);rw[<- append_assoc,<- append_assoc];exact perm_middle.symm
 .rw[e];exact Sublist.append_left (sublist_cons_self _ _) _
def uj(a b:Int×Int)(l r:List (Int×Int)):QZ (a::l) (b::r)=if JQ a b≠0 then JQ a b else QZ l r:=rfl
def uk(a:Int×Int)(l:List (Int×Int)):QZ (a::l) []=1:=rfl
def um(b:Int×Int)(r:List (Int×Int)):QZ [] (b::r) = -1:=rfl
def uo:QZ [] []=0:=rfl
def Bk.cas_mem{b:Bk}{k:Nat}(h:k<b.cs.length):b.cas k∈b.cs:=by
 simp only[Bk.cas,getD_eq_getElem?_getD,getElem?_eq_getElem h,Option.getD_some];exact getElem_mem h
end Go.TM
namespace Go.Proofs
open Go.TM
variable{T:Type}{S:TM.Sys prog T}{U:Qa T}
attribute [local irreducible] Qb Zh Wh
def Rj(l r:List (Int×Int))(a a':Option Addr)(c T:Nat)(hl:Qy U a l.length 2 l (λ x vs=>vs=encII x))(hr:Qy U a' r.length 2 r (λ x vs=>vs=encII x))(h1:l.length<=1000)(h2:r.length<=1000) :
  Qb S 94 #[.slice a l.length c,.slice a' r.length T,.func (.func 95) #[] #[]] (λ v U'=>v=.int .i64 (QZ l r)/\U'=U) U:=by
 refine Qb.pure' (Qb.of (args:=[_,_,_]) Ea Qe S1 ?_)
 refine⟨Nat,λ i=>[(0,.slice a l.length c),(1,.slice a' r.length T),(2,.func (.func 95) #[] #[]),(11,.slice a l.length c),(12,.int .i64 l.length),(13,.int .i64 i)],
  λ i U'=>U.lg U'/\i<=l.length/\i<=r.length/\QZ l r=QZ (l.drop i) (r.drop i),λ i=>l.length-i,0,T1,⟨(Qa.le.refl _).lg,O1,O1,rfl⟩,?_⟩
 rintro i f U1⟨B,hi,Z,b⟩;have P:Ze ((i:Int)+1):=I1
 repeat refine⟨rfl,?_⟩
 conv=>whnf
 apply Qd<;>intro w
 .have hlt:i<l.length:=by simpa using w
  obtain⟨X,x,vs,hx,rfl,aa,rfl,-,Q⟩:=(hl.lg B λ _ _ h=>h).at hlt;rw[Ww hx]at b;refine⟨X,i,⟨rfl,rfl,hlt⟩,_,⟨rfl,Q⟩,?_⟩
  conv=>whnf
  intro Y M;refine⟨_,.refl _,rfl,Zu (vs:=encII x) M rfl (by simp[encII,Value.single]) λ U2 K F=>?_⟩;have e:=B.trans K.lg
  repeat refine⟨rfl,?_⟩
  conv=>whnf
  apply Qd<;>intro w
  .have hge:r.length<=i:=by simpa using w
   rw[drop_eq_nil_of_le hge,uk]at b;rw[b]
   repeat refine⟨rfl,?_⟩
   conv=>whnf
   exact e
  have E:i<r.length:=by simp at w;omega
  obtain⟨I,y,vs,hy,rfl,V,rfl,-,H⟩:=(hr.lg e λ _ _ h=>h).at E;rw[Ww hy,uj]at b;refine⟨I,i,⟨rfl,rfl,E⟩,_,⟨rfl,H⟩,?_⟩
  conv=>whnf
  intro b9 N;refine⟨_,.refl _,rfl,Zu (vs:=encII y) N rfl (by simp[encII,Value.single]) λ W G L=>?_⟩;have z:=e.trans G.lg;have F:Zf W Y (encII x).toArray:=F.le G;refine⟨_,⟨rfl,F.rd⟩,?_⟩;refine⟨_,⟨rfl,L.rd⟩,?_⟩;refine⟨Eb.any,(qZ x y).go λ _=>?_⟩
  repeat refine⟨rfl,?_⟩
  conv=>whnf
  apply Qd<;>intro w
  .have hne:JQ x y≠0:=by simpa using w
   rw[if_pos hne]at b;rw[b]
   repeat refine⟨rfl,?_⟩
   conv=>whnf
   exact z
  .have hne:¬JQ x y≠0:=by simpa using w
   rw[if_neg hne]at b
   repeat refine⟨rfl,?_⟩
   refine⟨P,?_⟩
   conv=>whnf
   exact⟨rfl,i+1,T1,⟨z,O1,O1,b⟩,L1⟩
 .have hge:i=l.length:=by simp at w;omega
  subst hge;rw[drop_length]at b
  repeat refine⟨rfl,?_⟩
  conv=>whnf
  apply Qd<;>intro w
  .have hlt:l.length<r.length:=by simpa using w
   have:r.drop l.length=r[l.length]::r.drop (l.length+1):=drop_eq_getElem_cons hlt;rw[this,um]at b;rw[b]
   repeat refine⟨rfl,?_⟩
   conv=>whnf
   exact B
  .have hge:r.length<=l.length:=by simp at w;omega
   rw[drop_eq_nil_of_le hge,uo]at b;rw[b]
   repeat refine⟨rfl,?_⟩
   conv=>whnf
   exact B
def zn(h:BH)(b:Bk)(hb:Zp U.frz h b)(hs:b.Sml)(l:List (Int×Int))(a:Option Addr)(c:Nat)(hl:Qy U a l.length 2 l (λ x vs=>vs=encII x))(a4:l.length<=6)(al:b.Srt 5)(ah:∀s∈l,0<=s.1/\s.1.toNat<b.cs.length) :
  Qb S 90 #[h.v,.slice a l.length c] (λ v U'=>(∃w:BH,v=w.v/\QR U' w (b.stys l) U.M)/\(∀x o,U.I x=some o->U'.I x=some o)/\U'.tok=U.tok) U:=by
 have aq:Qb S 90 #[h.v,.slice a l.length c] (λ v U'=>(∃(w:BH)(o:Qw),v=w.v/\QR U' w (b.stys l) (o::U.M))/\(∀x o,U.I x=some o->U'.I x=some o)/\U'.tok=U.tok) U:=by
  refine Qb.of (args:=[_,_]) E9 Qe S1 ?_
  repeat refine⟨rfl,?_⟩
  conv=>whnf
  intro B U1 G hB;have hB:Zf U1 B #[.slice h.ra h.rl h.rc,.slice h.ca h.cl h.cc]:=hB
  conv=>whnf
  intro W a5;refine⟨_,.refl _,?_⟩;have ab:=Z2 (U:=U1) W (.cells #[.slice none 0 0,.slice none 0 0] 90);refine⟨_,⟨rfl,(hB.lg ab).rd⟩,?_⟩;refine⟨LN.any,(AG (S:=S) (U:=U1.put W (.cells #[.slice none 0 0,.slice none 0 0] 90)) h b (hb.lg (G.lg.frz2.trans ab.frz2)) hs).mono ?_⟩;rintro _ U2⟨⟨w,rfl,F⟩,L,T⟩-;have au:∀x o,U.I x=some o->U2.I x=some o:=λ x o z=>L x o (G.imm x o z);have a2:U2.tok=U.tok:=T.trans G.tok
  have F:QR U2 w b (.obj W (.cells [.slice none 0 0,.slice none 0 0].toArray 90 (0,0))::U.M):=by
   have e:(U1.put W (.cells #[.slice none 0 0,.slice none 0 0] 90)).M=.obj W (.cells [.slice none 0 0,.slice none 0 0].toArray 90 (0,0))::U.M:=by show _::U1.M=_;rw[G.own]
   rw[<- e];exact F
  clear ab L T
  conv=>whnf
  intro b5 aw;refine⟨_,.refl _,rfl,Zu (vs:=[.slice w.ra w.rl w.rc,.slice w.ca w.cl w.cc]) aw rfl (by simp[Value.single]) λ U3 Z K=>?_⟩;have K:Zf U3 b5 #[.slice w.ra w.rl w.rc,.slice w.ca w.cl w.cc]:=K
  refine⟨Nat,λ i=>[(1,.slice a l.length c),(4,.pointer (some ⟨W,0,none⟩)),(5,.pointer (some ⟨b5,0,none⟩)),(10,.slice a l.length c),(11,.int .i64 l.length),(12,.int .i64 i)],
   λ i U'=>U3.frz.lg U'/\i<=l.length/\QR U' w (b.stys (l.take i)) (.obj W (.cells [.slice none 0 0,.slice none 0 0].toArray 90 (0,0))::U.M),λ i=>l.length-i,0,T1,⟨⟨λ _ _ h=>h,⟨_,(append_nil _).symm⟩,rfl⟩,O1,F.le Z⟩,?_⟩
  rintro i f U4⟨E,hi,F⟩;have ai:Ze ((i:Int)+1):=I1
  have ac:∀x o,U.I x=some o->U4.I x=some o:=λ x o z=>E.imm x o (Z.imm x o (au x o z))
  repeat refine⟨rfl,?_⟩
  conv=>whnf
  apply Qd<;>intro hc
  .have hlt:i<l.length:=by simpa using hc
   obtain⟨ad,x,vs,z,rfl,a6,rfl,-,a1⟩:=(hl.mem ac λ r hr=>F.mem r (mem_cons_of_mem _ hr)).at hlt;obtain⟨a7,ap⟩:=ah x (mem_of_getElem? z);refine⟨ad,i,⟨rfl,rfl,hlt⟩,_,⟨rfl,a1⟩,?_⟩
   conv=>whnf
   intro b7 ax;refine⟨_,.refl _,rfl,Zu (vs:=encII x) ax rfl (by simp[encII,Value.single]) λ U5 H av=>?_⟩;have ag:Zf U5 b5 #[.slice w.ra w.rl w.rc,.slice w.ca w.cl w.cc]:=K.imI λ x o z=>H.imm x o (E.imm x o z);refine⟨_,⟨rfl,ag.rd⟩,?_⟩;refine⟨_,⟨rfl,av.rd⟩,?_⟩;have ak:=Bk.stys_srt al (l.take i) λ s hs=>(ah s (mem_of_mem_take hs)).2;have Q:=Bk.cas_mem (b:=b.stys (l.take i)) (k:=x.1.toNat) (by rw[Bk.stys_len];exact ap);have ay:=ak.l _ Q;have a3:((x.1.toNat:Nat):Int)=x.1:=O1
   have am:=Rz (S:=S) (U:=U5) w (b.stys (l.take i)) _ (F.le H) x.1.toNat x.2 (by rw[Bk.stys_len];exact ap) (ak.s _ Q) (by rw[length_take]at ay;omega);rw[a3]at am;refine⟨LO.any,am.mono ?_⟩;rintro v U6⟨a0,ae,ao⟩-;have aa:U3.frz.lg U6:=⟨λ x o z=>ae x o (H.imm x o (E.imm x o z)),⟨_,(append_nil _).symm⟩,ao.trans (H.tok.trans E.tok)⟩;refine⟨ai,?_⟩
   conv=>whnf
   exact⟨rfl,i+1,T1,⟨aa,O1,by rw[Z3 z,Bk.stys_snoc];exact a0⟩,L1⟩
  .have hge:i=l.length:=by simp at hc;omega
   subst hge;rw[take_length]at F;have af:Zf U4 b5 #[.slice w.ra w.rl w.rc,.slice w.ca w.cl w.cc]:=K.imI E.imm;obtain⟨X,Y,hM,aj,-,-⟩:=F.pick;refine⟨_,⟨rfl,af.rd⟩,?_⟩;refine⟨rfl,Jt (vs:=[.slice w.ra w.rl w.rc,.slice w.ca w.cl w.cc]) X hM rfl (by simp[Value.single]) λ U5 N V P=>?_⟩;refine⟨_,⟨rfl,Q9 X P⟩,⟨w,_,rfl,aj U5 _ (λ x q z=>by rw[N];exact z) V P⟩,λ x o z=>by rw[N];exact ac x o z,?_⟩;rw[V];exact E.tok.trans (Z.tok.trans a2)
 refine aq.post λ v U'⟨⟨w,o,hv,F⟩,hI,ht⟩=>?_;obtain⟨X,Y,-,-,an,az⟩:=F.pick;exact⟨_,Z5 an,⟨w,hv,az⟩,hI,ht⟩
end Go.Proofs
namespace Go.TM
variable{T:Type}{P:Program}{S:Sys P T}{U U':Qa T}
def Bk.canI(b:Bk)(i m:Nat):List (Int×Int):=((range m).filter λ k=>k != i&&!(b.cas i).af.contains (k:Int)).map λ(k:Nat)=>((i:Int),(k:Int))
def Bk.cansTo(b:Bk)(i:Nat):List (Int×Int):=(range i).flatMap λ i=>b.canI i b.cs.length
def Bk.cansTo_all(b:Bk):b.cansTo b.cs.length=b.cans:=rfl
def Bk.cansTo_succ(b:Bk)(i:Nat):b.cansTo (i+1)=b.cansTo i++b.canI i b.cs.length:=by simp[Bk.cansTo,range_succ]
def Bk.canI_succ(b:Bk)(i m:Nat):b.canI i (m+1)=b.canI i m++(if(m != i&&!(b.cas i).af.contains (m:Int))=true then[((i:Int),(m:Int))]else[]):=by
 unfold Bk.canI;rw[range_succ,filter_append,map_append];congr 1;by_cases h:(m != i&&!(b.cas i).af.contains (m:Int))=true
 .rw[if_pos h,show List.filter (λ k=>k != i&&!(b.cas i).af.contains ((k:Nat):Int)) [m]=[m] from filter_cons_of_pos (p:=λ k=>k != i&&!(b.cas i).af.contains ((k:Nat):Int)) h];rfl
 .rw[if_neg h,show List.filter (λ k=>k != i&&!(b.cas i).af.contains ((k:Nat):Int)) [m]=[] from filter_cons_of_neg (p:=λ k=>k != i&&!(b.cas i).af.contains ((k:Nat):Int)) h];rfl
def Bk.canI_len(b:Bk)(i m:Nat):(b.canI i m).length<=m:=by
 unfold Bk.canI;rw[length_map];exact Nat.le_trans (length_filter_le _ _) S1
def Bk.cansTo_len(b:Bk):∀i,(b.cansTo i).length<=i*b.cs.length
 |0=>by simp[Bk.cansTo]
 |i+1=>by
  rw[Bk.cansTo_succ,length_append,Nat.succ_mul];have:=b.cansTo_len i;have:=b.canI_len i b.cs.length;omega
def Bk.cas_at{b:Bk}{i:Nat}{c:Cs}(h:b.cs[i]?=some c):b.cas i=c:=by simp[Bk.cas,getD_eq_getElem?_getD,h]
end Go.TM
namespace Go.Proofs
open Go.TM
variable{T:Type}{S:TM.Sys prog T}{U:Qa T}
attribute [local irreducible] Qb Zh Wh
def Ag(h:BH)(b:Bk)(hb:Zp U.frz h b)(aq:b.cs.length<=5):Qb S 85 #[h.v] (λ v U'=>(∃a c,v=.slice a b.cans.length c/\Qy U'.frz a b.cans.length 2 b.cans (λ x vs=>vs=encII x)/\b.cans.length<=c/\∀ad,a=some ad->ad.spot=none)/\U.le U') U:=by
 have a2:=hb.cs.1
 have ak:Qb S 85 #[h.v] (λ v U'=>Acc 78 2 v (b.cans.flatMap encII) U'.M U.M/\(∀x o,U.I x=some o->U'.I x=some o)/\U'.tok=U.tok) U:=by
  refine Qb.of (args:=[_]) EF Qe S1 ?_
  repeat refine⟨rfl,?_⟩
  conv=>whnf
  intro B U1 K hB;have hB:Zf U1 B #[.slice h.ra h.rl h.rc,.slice h.ca h.cl h.cc]:=hB;refine⟨_,hB.sees3 (o:=1) rfl,Nat×Value,λ y=>[(1,.pointer (some ⟨B,0,none⟩)),(3,y.2),(9,.slice h.ca h.cl h.cc),(10,.int .i64 h.cl),(11,.int .i64 y.1)],λ y U'=>U1.frz.lg U'/\Acc 78 2 y.2 ((b.cansTo y.1).flatMap encII) U'.M U.M/\y.1<=h.cl,λ y=>h.cl-y.1,(0,.slice none 0 0),T1,⟨⟨λ _ _ h=>h,⟨_,(append_nil _).symm⟩,rfl⟩,by rw[K.own];exact .nil,O1⟩,?_⟩;rintro⟨i,v⟩f U2⟨L,w,hi⟩;simp only at w hi;obtain⟨sa,sl,sc,rfl,a6,-⟩:=Acc.src (U:=U2) w;have aw:Ze ((i:Int)+1):=I1
  have ab:U.frz.lg U2.frz:=K.lg.frz2.trans L.frz2
  repeat refine⟨rfl,?_⟩
  conv=>whnf
  apply Qd<;>intro P
  .have hlt:i<h.cl:=by simpa using P
   obtain⟨ad,c,ga,gl,gc,aa,al,ac,V,au,a0,ax,-,-,ha,ao,az⟩:=(hb.lg ab).case hlt;have X:=Bk.cas_at V;refine⟨ad,i,⟨au,rfl,hlt⟩,_,⟨rfl,ax.lg Qm⟩,?_⟩
   conv=>whnf
   intro b5 av;refine⟨_,.refl _,rfl,Zu (vs:=[.string c.nm,.int .i64 c.ag,.slice ga gl gc,.slice aa al ac]) av rfl (by simp[Value.single]) λ U3 Q ap=>?_⟩;have F:=L.trans Q.lg;refine⟨_,(hB.imI F.imm).sees3 (o:=1) rfl,Nat×Value,λ y=>[(1,.pointer (some ⟨B,0,none⟩)),(3,y.2),(4,.int .i64 i),(5,.pointer (some ⟨b5,0,none⟩)),(9,.slice h.ca h.cl h.cc),(10,.int .i64 h.cl),(11,.int .i64 i),(19,.int .i64 h.cl),(20,.int .i64 y.1)],λ y U'=>U3.frz.lg U'/\Acc 78 2 y.2 ((b.cansTo i++b.canI i y.1).flatMap encII) U'.M U.M/\y.1<=h.cl,λ y=>h.cl-y.1,(0,.slice sa sl sc),T1,⟨⟨λ _ _ h=>h,⟨_,(append_nil _).symm⟩,rfl⟩,by rw[Q.own];simpa[Bk.canI]using w,O1⟩,?_⟩;rintro⟨k,v⟩f U4⟨z,w,hk⟩;simp only at w hk;obtain⟨ua,ul,uc,rfl,a7,-⟩:=Acc.src (U:=U4) w;have H:Ze ((k:Int)+1):=I1
   have E:=b.canI_succ i k;rw[X]at E;have a3:=b.cansTo_len i;have a4:=b.canI_len i k;have a5:i*b.cs.length<=5*5:=Nat.mul_le_mul O1 aq;have ae:U1.frz.lg U4:=⟨λ x o V=>z.imm x o (F.imm x o V),⟨_,(append_nil _).symm⟩,z.tok.trans F.tok⟩
   repeat refine⟨rfl,?_⟩
   conv=>whnf
   apply Qd<;>intro P
   .have hkt:k<h.cl:=by simpa using P
    repeat refine⟨rfl,?_⟩
    conv=>whnf
    apply Q7<;>intro P
    .have hne:(k != i)=true:=by simp at P ⊢;omega
     refine⟨_,(ap.imI z.imm).sees3 (o:=3) rfl,Y5.any,(OW aa al ac c.af ((ha.lg (Q.lg.frz2.trans z.frz2)).lg Qm) ao (k:Int)).go λ _=>?_⟩;rw[hne,Bool.true_and]at E;cases Y:c.af.contains (k:Int)with
     |true=>
      rw[Y]at E
      repeat refine⟨rfl,?_⟩
      refine⟨H,?_⟩
      conv=>whnf
      exact⟨rfl,(k+1,.slice ua ul uc),T1,⟨z,by rw[E];simpa using w,by show k+1<=h.cl;omega⟩,L1⟩
     |false=>
      rw[Y]at E
      conv=>whnf
      intro am Z;refine Zl Z λ U5 T G=>?_;have G:Zf U5 am (encII ((i:Int),(k:Int))).toArray:=G
      conv=>whnf
      refine Wy (v:=.slice ua ul uc) (cs:=(b.cansTo i++b.canI i k).flatMap encII) (new:=encII ((i:Int),(k:Int))) (M₀:=U.M) KE rfl rfl (by rw[T.own];exact w) (.inr ⟨_,rfl,G.rd⟩) rfl (by simp[encII,Value.single]) (by
       rw[Q1 (f:=encII) (n:=2) (λ _=>rfl)];simp[encII];omega) λ v' M' an _=>?_
      have N:Acc 78 2 v' ((b.cansTo i++b.canI i (k+1)).flatMap encII) M' U.M:=by
       rw[E];simpa using an
      obtain⟨ta,tl,tc,rfl,-,-⟩:=Acc.src (U:={ U5 with M:=M' }) N;refine⟨H,?_⟩
      conv=>whnf
      exact⟨rfl,(k+1,.slice ta tl tc),T1,⟨⟨λ x o V=>T.imm x o (z.imm x o V),⟨_,(append_nil _).symm⟩,T.tok.trans z.tok⟩,N,by show k+1<=h.cl;omega⟩,L1⟩
    .have hne:(k != i)=false:=by simp at P ⊢;omega
     rw[hne,Bool.false_and]at E
     repeat refine⟨rfl,?_⟩
     refine⟨H,?_⟩
     conv=>whnf
     exact⟨rfl,(k+1,.slice ua ul uc),T1,⟨z,by rw[E];simpa using w,by show k+1<=h.cl;omega⟩,L1⟩
   .have hge:k=b.cs.length:=by simp at P;omega
    subst hge;rw[<- Bk.cansTo_succ]at w;refine⟨aw,?_⟩
    conv=>whnf
    exact⟨rfl,(i+1,.slice ua ul uc),T1,⟨ae,w,by show i+1<=h.cl;omega⟩,L1⟩
  .have hge:i=b.cs.length:=by simp at P;omega
   subst hge;rw[Bk.cansTo_all]at w
   repeat refine⟨rfl,?_⟩
   conv=>whnf
   exact⟨w,λ x o V=>L.imm x o (K.imm x o V),L.tok.trans K.tok⟩
 refine ak.sep λ v U' hs⟨ha,hI,ht⟩=>?_
 have W:∀a l c,v=.slice a l c->l<=c:=λ a l c e=>by
  rcases ha with⟨e1,_,_⟩|⟨b',c',a1,ay,e1,_,g2,_⟩
  .rw[e1]at e;cases e;exact Nat.le_refl _
  .rw[e1]at e;cases e;exact g2
 obtain⟨U'',k1,k2,a,len,cap,rfl,hl,aj,ai,_⟩:=ha.freeze hs hI ht;have ah:b.cans.length=len:=by have e:=(Q1 (f:=encII) (n:=2) (λ _=>rfl) b.cans).symm.trans hl;omega
 subst ah;exact⟨U'',k1,⟨a,cap,rfl,G5 (enc:=encII) (n:=2) (λ _=>rfl) aj ai D1,W _ _ _ rfl,ai⟩,k2⟩
end Go.Proofs
namespace Go.TM
variable{T:Type}{P:Program}{S:Sys P T}{U U':Qa T}
def J2{b:Nat}{e:TypeId}{vs:List Value}(h:Qw.obj b (.cells vs.toArray e (0,0))∈U.M):Z6 U ⟨b,0,none⟩ vs:=by
 obtain⟨X,Y,w⟩:=append_of_mem h;exact Q9 X w
def OC{M L₁ L₂:List Qw}{r:Qw}(h:M.Perm (L₁++r::L₂)):∃X Y,M=X++r::Y/\(X++Y).Perm (L₁++L₂):=by
 obtain⟨X,Y,e⟩:=append_of_mem (h.mem_iff.2 S1:r∈M);refine⟨X,Y,e,?_⟩;have b:(r::(X++Y)).Perm M:=by rw[e];exact perm_middle.symm
 exact(b.trans (h.trans perm_middle)).cons_inv
def Dj{X Y L₁ L₂:List Qw}(h:(X++Y).Perm (L₁++L₂))(r:Qw):(X++r::Y).Perm (L₁++r::L₂):=perm_middle.trans ((h.cons r).trans perm_middle.symm)
def eL{b i:Nat}{e:TypeId}{c:Array Value}{v:Value}{L₁ L₂:List Qw}{Q:Qa T->Prop}(N:U.M.Perm (L₁++.obj b (.cells c e (0,0))::L₂))(P:i<c.size)(V:v.single=true)
  (h:∀w:Qa T,w.I=U.I->w.tok=U.tok->w.M=L₁++.obj b (.cells (c.setIfInBounds i v) e (0,0))::L₂->Q w):ZB ((Addr.mk b 0 none).add i) [v] 0 (λ U'=>∃w,Qx U' w/\Q w) U:=by
 obtain⟨X,Y,E,S⟩:=OC N;refine ZB.mono (K:=λ U'=>∃w,Qx U' w/\∃B,Qx w B/\Q B) (λ U'⟨w,F,B,G,H⟩=>⟨B,F.trans G,H⟩) _ _ _ (WQ X E P V λ w L W z=>?_);exact⟨{ w with M:=L₁++.obj b (.cells (c.setIfInBounds i v) e (0,0))::L₂ },HB (by rw[z];exact Dj S _),h _ L W rfl⟩
def VW{b:Nat}{e:TypeId}{c:Array Value}{vs:List Value}{L₁ L₂:List Qw}{Q:Qa T->Prop}(P:U.M.Perm (L₁++.obj b (.cells c e (0,0))::L₂))(E:c.size=vs.length)(V:∀v∈vs,v.single=true)
  (h:∀w:Qa T,w.I=U.I->w.tok=U.tok->w.M=L₁++.obj b (.cells vs.toArray e (0,0))::L₂->Q w):ZB ⟨b,0,none⟩ vs 0 (λ U'=>∃w,Qx U' w/\Q w) U:=by
 obtain⟨X,Y,F,S⟩:=OC P;refine ZB.mono (K:=λ U'=>∃w,Qx U' w/\∃B,Qx w B/\Q B) (λ U'⟨w,G,B,H,L⟩=>⟨B,G.trans H,L⟩) _ _ _ (Jt X F E V λ w N W z=>?_);exact⟨{ w with M:=L₁++.obj b (.cells vs.toArray e (0,0))::L₂ },HB (by rw[z];exact Dj S _),h _ N W rfl⟩
def dR{b:Nat}{o:Obj}{M L₁ L₂:List Qw}(h:M.Perm (L₁++.obj b o::L₂)):∃M':Obj->List Qw,∀w,J7 b w o M (M' w)/\(M' w).Perm (L₁++.obj b w::L₂):=by
 obtain⟨X,Y,e,z⟩:=OC h;exact⟨λ w=>X++.obj b w::Y,λ w=>⟨by rw[e];exact PJ .here X,Dj z _⟩⟩
def gC{b:Nat}{c:Array Value}{t:TypeId}{M' M₀:List Qw}{Q:Qa T->Prop}(w:U.free b)(z:U.M.Perm (M'++M₀))(h:∀e:Qa T,(∀x o,U.I x=some o->e.I x=some o)->e.tok=U.tok->e.M=M'->Zf e b c->Q e):∃e,Qx (U.put b (.cells c t)) e/\Q e:=
 ⟨_,(Wi (b:=b) (M':=U.M) (Perm.refl _)).trans (Md (M':=M') ⟨M₀,z⟩),h _ (P1 (o:=.cells c t) w).imm rfl rfl Zf.new⟩
def ZU(L:List Nat):List Value:=L.map λ n=>.int .i64 (n:Nat)
def EP(L:List Nat):(ZU L).length=L.length:=by simp[ZU]
def Na{L:List Nat}{i:Nat}(h:i<L.length):(ZU L)[i]?=some (.int .i64 (L.getD i 0:Nat)):=by
 simp[ZU,getD_eq_getElem?_getD,getElem?_eq_getElem h]
def EQ(L:List Nat)(i v:Nat):(ZU L).toArray.setIfInBounds i (.int .i64 (v:Nat))=(ZU (L.set i v)).toArray:=by
 simp[ZU,map_set]
def kY(n:Nat):replicate n (Value.int .i64 0)=ZU (replicate n 0):=by simp[ZU]
abbrev QS:Int->Value:=λ k=>.int .i64 k
def JI(m:Nat)(ky:Nat->Int)(vl:Nat->Value):List (Int×Value):=(range m).map λ p=>(ky p,vl p)
def Fh(m:Nat)(ky:Nat->Int)(vl:Nat->Value):(JI m ky vl).length=m:=by simp[JI]
def DL(m:Nat)(ky:Nat->Int)(vl:Nat->Value):JI (m+1) ky vl=JI m ky vl++[(ky m,vl m)]:=by simp[JI,range_succ]
def OS{m p:Nat}{ky:Nat->Int}{vl:Nat->Value}(h:p<m):(JI m ky vl)[p]?=some (ky p,vl p):=by simp[JI,h]
def pg{m:Nat}{ky b:Nat->Int}{vl e:Nat->Value}(h:∀p,p<m->ky p=b p/\vl p=e p):JI m ky vl=JI m b e:=
 map_congr_left λ p B=>by obtain⟨w,z⟩:=h p (by simpa using B);rw[w,z]
def N4{κ:Type}[DecidableEq κ]{k:κ}{v:Value}:∀{l:List (κ×Value)}(i:Nat),l.Pairwise (λ a b=>a.1≠b.1)->(k,v)∈l->(QM k l i).map (·.2)=some v
 |[],_,_,h=>by cases h
 |p::l,i,B,h=>by
  obtain⟨w,z⟩:=pairwise_cons.1 B;simp only[QM];rcases mem_cons.1 h with e|h
  .subst e;simp
  .rw[if_neg λ e=>w _ h e.symm];exact N4 (i+1) z h
def N5{κ:Type}[DecidableEq κ]{k:κ}:∀{l:List (κ×Value)}(i:Nat),(∀p∈l,p.1≠k)->QM k l i=none
 |[],_,_=>rfl
 |p::l,i,h=>by
  simp only[QM];rw[if_neg λ e=>h p S1 e.symm];exact N5 (i+1) λ q b=>h q (by simp[b])
def N8{m p:Nat}{ky:Nat->Int}{vl:Nat->Value}(h:p<m)(E:∀q r,q<m->r<m->ky q=ky r->q=r):lk (ky p) (JI m ky vl)=some (vl p):=by
 refine N4 0 ?_ (mem_of_getElem? (OS h));unfold JI;rw[pairwise_map];refine Pairwise.imp_of_mem (R:=λ a b=>a≠b) (λ{a b}z B w e=>w (E a b (by simpa using z) (by simpa using B) e)) nodup_range
def T7{m:Nat}{k:Int}{ky:Nat->Int}{vl:Nat->Value}(h:∀q,q<m->ky q≠k):lk k (JI m ky vl)=none/\∀v,ZC k v (JI m ky vl)=JI m ky vl++[(k,v)]:=by
 have:QM k (JI m ky vl) 0=none:=N5 0 λ p b=>by
  unfold JI at b;obtain⟨q,e,rfl⟩:=mem_map.1 b;exact h q (by simpa using e)
 exact⟨by unfold lk;rw[this];rfl,λ v=>UV this⟩
end Go.TM
namespace Go.Proofs
open Go.TM
def Vf{T:Type}:WK T prog 3 QS:=by
 have b:prog.underlying 3=some (.int .i64):=K1
 exact .simple b rfl (λ k k'=>by simp[Instr.sameNow];rfl) (λ k=>by simp[Instr.sameBits])
def KG:prog.underlying 144=some (.map 3 3):=K1
def TY:prog.underlying 127=some (.map 3 39):=K1
def sA:Xq prog 39=some (.int .i64 0):=K1
end Go.Proofs
namespace Go.TM
variable{T:Type}{U:Qa T}
def I8{a:Option Addr}{l:List Int}(h:Z0 U a l.length l):Qy U a l.length 1 l (λ x vs=>vs=[.int .i64 x]):=by
 refine⟨rfl,λ i x E=>?_⟩;obtain⟨w,e,z,B⟩:=h.2 i x E;refine⟨w,_,e,z,rfl,rfl,λ k v b=>?_⟩;cases k with
 |zero=>
  simp at b;subst b;obtain⟨bb,F,G⟩:=w;cases z;rw[Qp]at B;rw[Qp,Qp,Nat.add_zero];exact B
 |succ k=>simp at b
end Go.TM
namespace Go.TM
variable{T:Type}{P:Program}{S:Sys P T}{U U':Qa T}
def Bk.setA(b:Bk)(q:Nat)(l:List Int):Bk:=⟨b.rs,b.cs.set q { b.cas q with af:=l }⟩
structure eE(U:Qa T)(h:BH)(b:Bk)(M₀:List Qw)(q:Nat)(a0:Option Addr)(l0 c0:Nat)(kF:List Qw)(cb:Nat)(cc:Array Value)(rest:List Qw):Prop where
 ca:h.ca=some ⟨cb,0,none⟩
 lt:q<h.cl
 sz:q*4+3<cc.size
 at3:cc.toList[q*4+3]?=some (.slice a0 l0 c0)
 acc:Jx 3 1 (.slice a0 l0 c0) ((b.cas q).af.map λ n=>.int .i64 n) kF
 len:(b.cas q).af.length<=1000
 pm:U.M.Perm (kF++(.obj cb (.cells cc.toList.toArray 48 (0,0))::(rest++M₀)))
 back:∀(U':Qa T)(v':Value)(F':List Qw)(l':List Int)(M0':List Qw),U.frz.lg U'.frz->Jx 3 1 v' (l'.map λ n=>.int .i64 n) F'->l'.length<=1000->U'.M.Perm (F'++(.obj cb (.cells (cc.setIfInBounds (q*4+3) v') 48 (0,0))::(rest++M0')))->QR U' h (b.setA q l') M0'
def QR.openC{h:BH}{b:Bk}{M₀:List Qw}(ho:QR U h b M₀){q:Nat}(hq:q<b.cs.length):∃P l0 c0 N cb cc rest,eE U h b M₀ q P l0 c0 N cb cc rest:=by
 obtain⟨ps,A,L,K,T,hM⟩:=ho.ex;have ak:q<ps.length:=by rw[<- L,length_map]at hq;exact hq
 obtain⟨p,hp⟩:∃p,ps[q]?=some p:=⟨_,getElem?_eq_getElem ak⟩;obtain⟨X,Y,rfl,hX,ad⟩:=Fg hp;obtain⟨c,ag,ai,ah,kv,N⟩:=p
 have w:b.cas q=c:=by
  have:=congrArg (λ l=>l[q]?) L;simp only[getElem?_map,hp]at this;simp[Bk.cas,getD_eq_getElem?_getD,<- this]
 have E:=K _ (mem_of_getElem? hp);obtain⟨P,l0,c0,e0,am⟩:=E.af.src;obtain rfl:kv=.slice P l0 c0:=e0;have hF:Jx 3 1 (.slice P l0 c0) (c.af.map λ n=>.int .i64 n) N:=E.af;obtain⟨cb,cc,S,Q,I,aa,ab,H,rfl,Z⟩:=T.blk (by simp[Q_]);have aj:h.cl=S:=by have:=Value.slice.inj I;exact this.2.1
 have V:h.ca=some ⟨cb,0,none⟩:=by have:=Value.slice.inj I;exact this.1
 have W:h.cc=Q:=by have:=Value.slice.inj I;exact this.2.2
 have z:=aa;rw[Q1 Z4]at z;have ac:q<h.cl:=O1
 have ae:q*4+3<cc.size:=by rw[H];omega
 refine⟨P,l0,c0,N,cb,cc,X.flatMap (·.2.F)++Y.flatMap (·.2.F),⟨V,ac,ae,?_,by rw[w];exact hF,by rw[w];exact E.al,?_,?_⟩⟩
 .rw[Array.getElem?_toList];exact Z _ _ (PO Z4 hp (by omega:3<4))
 .refine hM.trans ?_;rw[flatMap_append,flatMap_cons];show Perm (.obj cb (.cells cc 48 (0,0))::(X.flatMap (·.2.F)++(N++Y.flatMap (·.2.F))++M₀)) _;refine Perm.trans (Perm.cons _ ?_) perm_middle.symm;rw[<- append_assoc N];refine Perm.append_right _ ?_;rw[<- append_assoc,<- append_assoc];exact Perm.append_right _ perm_append_comm
 .intro U' v' F' l' M0' hz hF' hl' hM';refine⟨⟨X++({ c with af:=l' },⟨ag,ai,ah,v',F'⟩)::Y,[.obj cb (.cells (cc.setIfInBounds (q*4+3) v') 48 (0,0))],?_,?_,?_,?_⟩,ho.rs.lg hz λ _ _ h=>h,ho.rl,ho.rn,ho.rc⟩
  .show _=(b.cs.set q { b.cas q with af:=l' });rw[w,<- L,<- map_set (f:=λ p:Cs×ZO=>p.1) (a:=({ c with af:=l' },(⟨ag,ai,ah,v',F'⟩:ZO)))];rw[ad]
  .intro r M;rw[mem_append,mem_cons]at M;rcases M with M|rfl|M
   .exact(K r (by simp[M])).lg hz
   .have:=E.lg hz;exact⟨this.gs,this.gl,hF',this.nm,hl'⟩
   .exact(K r (by simp[M])).lg hz
  .rw[V,aj,W];refine .ofBlk ?_ ab (by simp[H]) λ i x B=>?_
   .rw[Q1 Z4];simpa using z
   .have hlen1:(X.flatMap Q_).length=q*4:=by rw[Q1 Z4,hX]
    rw[Array.getElem?_setIfInBounds];rw[flatMap_append,flatMap_cons]at B;have G:=Z i;rw[flatMap_append,flatMap_cons]at G;by_cases e:q*4+3=i
    .subst e;rw[if_pos rfl,if_pos ae];rw[getElem?_append_right O1,hlen1,Nat.add_sub_cancel_left,getElem?_append_left (by rw[Z4];omega)]at B;exact B
    .rw[if_neg e];refine G x ?_;by_cases h1:i<q*4
     .rw[getElem?_append_left O1]at B ⊢;exact B
     .rw[getElem?_append_right O1,hlen1]at B ⊢;by_cases h2:i-q*4<4
      .rw[getElem?_append_left (by rw[Z4];exact h2)]at B ⊢;have:i-q*4=0\/i-q*4=1\/i-q*4=2:=O1
       rcases this with e|e|e <;> rw[e]at B ⊢ <;> exact B
      .rw[getElem?_append_right (by rw[Z4];omega)]at B ⊢;exact B
  .refine hM'.trans ?_;rw[flatMap_append,flatMap_cons];show Perm _ (.obj cb _::(X.flatMap (·.2.F)++(F'++Y.flatMap (·.2.F))++M0'));refine Perm.trans perm_middle (Perm.cons _ ?_);rw[<- append_assoc F'];refine Perm.append_right _ ?_;rw[<- append_assoc,<- append_assoc];exact Perm.append_right _ perm_append_comm
def Bk.woL(b:Bk)(K:List Nat)(g:Nat->List Int):List Cs:=(range K.length).map λ p=>{ b.cas (K.getD p 0)with af:=g p }
def Bk.woL_len(b:Bk)(K:List Nat)(g:Nat->List Int):(b.woL K g).length=K.length:=by simp[Bk.woL]
def Bk.woL_at{b:Bk}{K:List Nat}{g:Nat->List Int}{q:Nat}(h:q<K.length):(b.woL K g)[q]?=some { b.cas (K.getD q 0)with af:=g q }:=by simp[Bk.woL,h]
def Bk.woL_set{b:Bk}{K:List Nat}{g:Nat->List Int}{q:Nat}(h:q<K.length)(l:List Int):(Bk.mk b.rs (b.woL K g)).setA q l=Bk.mk b.rs (b.woL K λ p=>if p=q then l else g p):=by
 have z:(Bk.mk b.rs (b.woL K g)).cas q={ b.cas (K.getD q 0)with af:=g q }:=Bk.cas_at (Bk.woL_at h);unfold Bk.setA;rw[z];congr 1;apply ext_getElem?;intro i;rw[getElem?_set];by_cases e:q=i
 .subst e;rw[if_pos rfl,if_pos (by rw[Bk.woL_len];exact h),Bk.woL_at h,if_pos rfl]
 .rw[if_neg e];by_cases w:i<K.length
  .rw[Bk.woL_at w,Bk.woL_at w,if_neg (Ne.symm e)]
  .rw[getElem?_eq_none (by rw[Bk.woL_len];omega),getElem?_eq_none (by rw[Bk.woL_len];omega)]
def Bk.woL_snoc(b:Bk)(K:List Nat)(k:Nat):b.woL (K++[k]) (λ _=>[])=b.woL K (λ _=>[])++[{ b.cas k with af:=[] }]:=by
 unfold Bk.woL;rw[length_append,length_cons,length_nil,range_succ,map_append];congr 1
 .refine map_congr_left λ p e=>?_;rw[mem_range]at e;rw[getD_eq_getElem?_getD,getElem?_append_left e,<- getD_eq_getElem?_getD]
 .simp[getD_eq_getElem?_getD]
def Bk.woL_congr{b:Bk}{K:List Nat}{g g':Nat->List Int}(h:∀p,p<K.length->g p=g' p):b.woL K g=b.woL K g':=
 map_congr_left λ p e=>by rw[h p (by simpa using e)]
def Bk.wo_woL{b:Bk}{f:Nat->Bool}{W:List Nat}(w:∀i,i<b.cs.length->∀k,(W.getD i 0).testBit k=QO b.A f b.cs.length i k) :
  b.wo f=Bk.mk b.rs (b.woL (Bk.kpt f b.cs.length) λ p=>Bk.afK f (W.getD ((Bk.kpt f b.cs.length).getD p 0) 0) b.cs.length):=by
 have h:=Bk.wo_cs (out:=f) b W w;have:b.wo f=Bk.mk b.rs (b.wo f).cs:=rfl;rw[this,h];congr 1;unfold Bk.woL;apply ext_getElem?;intro i;rw[Bk.kpt_all];by_cases e:i<(b.kept f).length
 .simp[e,getD_eq_getElem?_getD]
 .rw[getElem?_eq_none (by simpa using e),getElem?_eq_none (by simpa using e)]
end Go.TM

