/- Lemmas. No conditions. -/
import Derived.Test.YtnpfcnfhfkflhaaGreatDoorB39
set_option linter.all false
open List
open Go.Proofs.Tryz (prog)
set_option maxRecDepth 100000
namespace Go.TM
variable{T:Type}{P:Program}{S:Sys P T}{U U':Qa T}
def QG(U:Qa T)(v:Value)(l:List Int):Prop:=∃a cap,v=.slice a l.length cap/\Z5 U a l.length l/\l.length<=cap
def QG.lg{v:Value}{l:List Int}(h:QG U v l)(b:U.lg U'):QG U' v l:=let ⟨a,c,e,h,r⟩:=h;⟨a,c,e,h.lg b,r⟩
def QG.nil:QG U (.slice none 0 0) []:=⟨none,0,rfl,⟨rfl,λ i x h=>by simp at h⟩,Nat.le_refl _⟩
def QG.v{v:Value}{l:List Int}(h:QG U v l):Jd U v l:=let ⟨a,c,e,h,_⟩:=h;⟨a,c,e,h⟩
def Gf(S:Sys P T)(g:FuncId)(first e:Array Value){α:Type}(enc:α->List Value)(n:Nat)(z:List (List α))(I:Nat->Qa T->Prop)(E:Qa T->Prop)(U₀:Qa T):Prop:=
 ∀(k:Nat)(p:List α)(a:Option Addr)(cap:Nat)(U:Qa T)(X f:List Qx),z[k]?=some p->U₀.frz.lg U.frz->Q5 U.frz a p.length n p (λ x vs=>vs=enc x)->((∀h,a=some h->h.spot=none)/\p.length<=cap)->U.M=X++f->I k ⟨U.I,f,U.tok⟩ ->
  Qb S g (first.toList++[Value.slice a p.length cap]++e.toList).toArray (λ v U'=>(v=.bool false/\U.frz.lg U'.frz/\∃b,U'.M=X++b/\I (k+1) ⟨U'.I,b,U'.tok⟩)\/(v=.bool true/\∃w b,U'.M=w++b/\E ⟨U'.I,b,U'.tok⟩/\∀x o,U.I x=some o->U'.I x=some o)) U
def QS.lg'{a:Option Addr}{cs:List Value}(h:QS U a cs)(k:U.lg U'):QS U' a cs:=h.imp id λ⟨b,e,r⟩=>⟨b,e,r.lg k⟩
theorem HV{α:Type}{enc:α->List Value}{n:Nat}(f:∀x,(enc x).length=n){a:Option Addr}{l:List α}(h:QS U a (l.flatMap enc))(w:∀b,a=some b->b.spot=none)(e:0<n):Q5 U a l.length n l λ x vs=>vs=enc x:=by
 refine⟨rfl,λ i x B=>?_⟩
 have H:(l.flatMap enc)≠[]:=by
  intro E;have:=Q0 f l;rw[E]at this;have M:=(List.getElem?_eq_some_iff.1 B).1;have K:0<l.length*n:=Nat.mul_pos O1 e;simp at this;omega
 rcases h with⟨_,G⟩|⟨b,rfl,I⟩
 .simp_all
 .refine⟨b,enc x,rfl,w b rfl,rfl,f x,λ j v z=>?_⟩;have F:j<n:=by have:=(List.getElem?_eq_some_iff.1 z).1;rw[f]at this;exact this
  have L:=I (i*n+j) v (by rw[P9 f B F];exact z);obtain⟨bb,N,P⟩:=b;grind[Qo,Nat.add_assoc]
end Go.TM
namespace Go.Proofs
open Go.TM
variable{T:Type}{S:TM.Sys prog T}{U:Qa T}
attribute [local irreducible] Qb Zl Wt
def Y5:Xa prog 68 84 2:=.of K1
def MY:prog.underlying 68=some (.slice 84):=K1
def Zz(n:Int):List Value:=[.int .i64 n]
def Ls:List (List (Nat×St)):=[[(0,.xl 26 5),(0,.m 27 0),(0,.xo 28 0 4),(0,.xl 29 28),(0,.m 30 9),(0,.xi 31 2 29 30),(0,.xd 32 2 31),(0,.m 35 9),(0,.xa 36 35),(2,.d 33 (.bsl 84 1 #[(.int .i64 0),(.int .i64 0)] [(0,2,(.t 32))])),(2,.xz 34 27 33 68)]]
def wg:List St:=[.d 37 (.call (.t 26) #[(.t 34),(.t 36)])]
def F7:List (List (Nat×St)):=[[(0,.xl 26 5),(0,.m 27 0),(0,.xo 28 0 4),(0,.xl 29 28),(0,.m 30 9),(0,.xi 31 1 29 30),(0,.xl 32 31),(0,.m 35 9),(0,.xa 36 35),(2,.d 33 (.bsl 3 1 #[(.int .i64 0)] [(0,1,(.t 32))])),(2,.xz 34 27 33 26)]]
def Mz:List St:=[.d 37 (.call (.t 26) #[(.t 34),(.t 36)])]
def encII(p:Int×Int):List Value:=[.int .i64 p.1,.int .i64 p.2]
def Cg(a:Option Addr)(cap:Nat)(l:List (Int×Int))(hs:QS U a (l.flatMap encII))(Z:l.length<=1000) :
  Qb S 170 #[.slice a l.length cap] (λ v U'=>(∃a' b,v=.slice a' l.length b/\Q5 U'.frz a' l.length 2 l (λ x vs=>vs=encII x)/\(∀z,a'=some z->z.spot=none)/\l.length<=b)/\U.le U') U:=by
 have F:(l.flatMap encII).length=l.length*2:=Q0 (f:=encII) (λ _=>rfl) l
 have W:∀w∈l.flatMap encII,w.single=true:=by
  intro w hw;obtain⟨x,_,X⟩:=mem_flatMap.1 hw;simp[encII]at X
  first|(rcases X with rfl|rfl <;> rfl)|(subst X;rfl)
 have L:Qb S 170 #[.slice a l.length cap] (λ v U'=>Acc 84 2 v (l.flatMap encII) U'.M U.M/\(∀x o,U.I x=some o->U'.I x=some o)/\U'.tok=U.tok) U:=by
  refine Qb.of (args:=[_]) Dd Qf S1 ?_
  conv=>whnf
  refine K6 MY rfl ?_
  conv=>whnf
  apply Qe<;>intro Y
  .have P:a=none:=by simpa using Y
   subst P
   have:l=[]:=by
    rcases hs with⟨_,N⟩|⟨z,N,_⟩
    .cases l with
     |nil=>rfl
     |cons x r=>simp_all
    .cases N
   subst this
   repeat refine⟨rfl,?_⟩
   conv=>whnf
   exact⟨.nil,λ _ _ h=>h,rfl⟩
  .obtain⟨z,rfl⟩:∃z,a=some z:=by cases a with|none=>cases Y|some z=>exact⟨z,rfl⟩
   conv=>whnf
   intro T ab;refine⟨_,.refl _,?_⟩
   have B:QS (U.put T (.cells #[] 84)) (some z) (l.flatMap encII):=by
    rcases hs with⟨N,_⟩|⟨aa,e,hr⟩
    .cases N
    .cases e;exact .inr ⟨_,rfl,hr.lg (Z4 T _)⟩
   conv=>whnf
   refine Ws (v:=.slice (some ⟨T,0,none⟩) 0 0) (cs:=[]) (new:=l.flatMap encII) (M₀:=U.M) Y5 rfl rfl .empty B F W (by grind) λ v' M' E _=>?_;obtain⟨ta,tl,tc,rfl,-,-⟩:=Acc.src (U:={ U with M:=M' }) E
   repeat refine⟨rfl,?_⟩
   conv=>whnf
   exact⟨by simpa using E,λ _ _ h=>h,rfl⟩
 refine L.sep λ v U' B⟨P,hI,ht⟩=>?_;obtain⟨Q,k1,k2,a',K,b,rfl,V,H,G,_⟩:=P.freeze B hI ht;have:l.length=K:=by have e:=F.symm.trans V;omega
 subst this;exact⟨Q,k1,⟨a',b,rfl,HV (enc:=encII) (n:=2) (λ _=>rfl) H G D1,G,P.room⟩,k2⟩
structure PC(U:Qa T)(l:List (Int×Int))(many:Nat)(g:FuncId)(first capt:Array Value)(bm bt bl bn:Nat):Prop where
 m:Zi U bm #[.int .i64 many]
 t:Zi U bt #[.func (.func g) first capt]
 l:∃a cap,Zi U bl #[.slice a l.length cap]/\Q5 U.frz a l.length 2 l (λ x vs=>vs=encII x)
 n:Zi U bn #[.func (.func 169) #[] #[.pointer (some ⟨bm,0,none⟩),.pointer (some ⟨bt,0,none⟩),.pointer (some ⟨bl,0,none⟩),.pointer (some ⟨bn,0,none⟩)]]
def PC.lg{U':Qa T}{l:List (Int×Int)}{e:Nat}{g:FuncId}{first b:Array Value}{bm z f w:Nat}(h:PC U l e g first b bm z f w)(k:U.frz.lg U'.frz):PC U' l e g first b bm z f w:=
 ⟨h.m.imI k.imm,h.t.imI k.imm,let ⟨a,c,h1,h2⟩:=h.l;⟨a,c,h1.imI k.imm,h2.lg k λ _ _ h=>h⟩,h.n.imI k.imm⟩
def xP(a:Option Addr)(cap:Nat)(l:List Int)(hs:QS U a (l.flatMap Zz))(Z:l.length<=1000) :
  Qb S 168 #[.slice a l.length cap] (λ v U'=>(∃a' b,v=.slice a' l.length b/\Q5 U'.frz a' l.length 1 l (λ x vs=>vs=Zz x)/\(∀z,a'=some z->z.spot=none)/\l.length<=b)/\U.le U') U:=by
 have F:(l.flatMap Zz).length=l.length*1:=Q0 (f:=Zz) (λ _=>rfl) l
 have W:∀w∈l.flatMap Zz,w.single=true:=by
  intro w hw;obtain⟨x,_,X⟩:=mem_flatMap.1 hw;simp[Zz]at X
  first|(rcases X with rfl|rfl <;> rfl)|(subst X;rfl)
 have L:Qb S 168 #[.slice a l.length cap] (λ v U'=>Acc 3 1 v (l.flatMap Zz) U'.M U.M/\(∀x o,U.I x=some o->U'.I x=some o)/\U'.tok=U.tok) U:=by
  refine Qb.of (args:=[_]) GP Qf S1 ?_
  conv=>whnf
  refine K6 Pf rfl ?_
  conv=>whnf
  apply Qe<;>intro Y
  .have P:a=none:=by simpa using Y
   subst P
   have:l=[]:=by
    rcases hs with⟨_,N⟩|⟨z,N,_⟩
    .grind
    .cases N
   subst this
   repeat refine⟨rfl,?_⟩
   conv=>whnf
   exact⟨.nil,λ _ _ h=>h,rfl⟩
  .obtain⟨z,rfl⟩:∃z,a=some z:=by cases a with|none=>cases Y|some z=>exact⟨z,rfl⟩
   conv=>whnf
   intro T ab;refine⟨_,.refl _,?_⟩
   have B:QS (U.put T (.cells #[] 3)) (some z) (l.flatMap Zz):=by
    rcases hs with⟨N,_⟩|⟨aa,e,hr⟩
    .cases N
    .cases e;exact .inr ⟨_,rfl,hr.lg (Z4 T _)⟩
   conv=>whnf
   refine Ws (v:=.slice (some ⟨T,0,none⟩) 0 0) (cs:=[]) (new:=l.flatMap Zz) (M₀:=U.M) Hf rfl rfl .empty B F W (by grind) λ v' M' E _=>?_;obtain⟨ta,tl,tc,rfl,-,-⟩:=Acc.src (U:={ U with M:=M' }) E
   repeat refine⟨rfl,?_⟩
   conv=>whnf
   exact⟨by simpa using E,λ _ _ h=>h,rfl⟩
 refine L.sep λ v U' B⟨P,hI,ht⟩=>?_;obtain⟨Q,k1,k2,a',K,b,rfl,V,H,G,_⟩:=P.freeze B hI ht;have:l.length=K:=by have e:=F.symm.trans V;omega
 subst this;exact⟨Q,k1,⟨a',b,rfl,HV (enc:=Zz) (n:=1) (λ _=>rfl) H G D1,G,P.room⟩,k2⟩
structure Po(U:Qa T)(l:List Int)(many:Nat)(g:FuncId)(first capt:Array Value)(bm bt bl bn:Nat):Prop where
 m:Zi U bm #[.int .i64 many]
 t:Zi U bt #[.func (.func g) first capt]
 l:∃a cap,Zi U bl #[.slice a l.length cap]/\Q5 U.frz a l.length 1 l (λ x vs=>vs=Zz x)
 n:Zi U bn #[.func (.func 167) #[] #[.pointer (some ⟨bm,0,none⟩),.pointer (some ⟨bt,0,none⟩),.pointer (some ⟨bl,0,none⟩),.pointer (some ⟨bn,0,none⟩)]]
def Po.lg{U':Qa T}{l:List Int}{e:Nat}{g:FuncId}{first b:Array Value}{bm z f w:Nat}(h:Po U l e g first b bm z f w)(k:U.frz.lg U'.frz):Po U' l e g first b bm z f w:=
 ⟨h.m.imI k.imm,h.t.imI k.imm,let ⟨a,c,h1,h2⟩:=h.l;⟨a,c,h1.imI k.imm,h2.lg k λ _ _ h=>h⟩,h.n.imI k.imm⟩
set_option maxHeartbeats 1000000 in
def AK(l:List (Int×Int))(hl:l.length<=1000)(ah:Nat)(hm:ah<=1000)(g:FuncId)(first al:Array Value)(hg:(prog.funcs[g]?.any λ fd=>fd.body.isSome&&fd.name != "runtime.NumGoroutine")=true){bm bt bl bn:Nat}{ps:List (List (Int×Int))}{I:Nat->Qa T->Prop}{E:Qa T->Prop}{U₀:Qa T}
  (a7:∀k L W,L.le W->I k L->I k W) (bj:Gf S g first al encII 2 ps I E U₀) :
  ∀(m:Nat)(x:List (Int×Int))(i j:Nat)(xv:Value)(U:Qa T)(Z Mc:List Qx),x.length+m=ah->i<=l.length->U₀.frz.lg U.frz->PC U l ah g first al bm bt bl bn->Acc 84 2 xv (x.flatMap encII) U.M (Z++Mc)->(∀(i':Nat)q,(TM.parts (l.drop i) m)[i']?=some q->ps[j+i']?=some (x++q))->I j ⟨U.I,Mc,U.tok⟩ ->
   Qb S 169 #[xv,.int .i64 i,.pointer (some ⟨bm,0,none⟩),.pointer (some ⟨bt,0,none⟩),.pointer (some ⟨bl,0,none⟩),.pointer (some ⟨bn,0,none⟩)]
    (λ v U'=>(v=.bool false/\U.frz.lg U'.frz/\∃w,Acc 84 2 xv (x.flatMap encII) U'.M (Z++w)/\I (j+(TM.parts (l.drop i) m).length) ⟨U'.I,w,U'.tok⟩)\/(v=.bool true/\∃X' w,U'.M=X'++w/\E ⟨U'.I,w,U'.tok⟩/\∀x o,U.I x=some o->U'.I x=some o)) U:=by
 intro m
 induction m with
 |zero=>
  intro x i j xv U Z Mc bo hi h0 aa G ab hI;obtain⟨sa,sl,sc,rfl,au,a6⟩:=G.src;have av:x.length=sl:=by have e:=(Q0 (f:=encII) (n:=2) (λ _=>rfl) x).symm.trans au;omega
  subst av
  obtain⟨A,hA⟩:∃A,U.M=A++(Z++Mc):=by
   rcases G with⟨_,_,hM⟩|⟨b,c,len,cap,_,_,_,_,hM,_⟩
   .exact⟨[],hM⟩
   .exact⟨[_],hM⟩
  refine Qb.of (args:=[_,_,_,_,_,_]) V8 Qf S1 ?_;refine⟨_,aa.m.sees3 (o:=0) rfl,?_⟩
  repeat refine⟨rfl,?_⟩
  conv=>whnf
  apply Qe<;>intro hc
  .refine⟨_,aa.t.sees3 (o:=0) rfl,λ v U'=>∃a' ak,v=.slice a' x.length ak/\Q5 U'.frz a' x.length 2 x (λ x vs=>vs=encII x)/\(∀ad,a'=some ad->ad.spot=none)/\x.length<=ak,λ v L W⟨a',c',e,h,s⟩z=>⟨a',c',e,h.lg z.lg.frz2 λ _ _ h=>h,s⟩,λ U' z hC=>?_,λ v hv=>?_⟩
   .refine⟨Dd.any,(Cg sa sc x (QS.lg' a6 z.lg) O1).mono ?_⟩;rintro v a9⟨hv,a3⟩-;exact⟨a9,.refl _,hv,a3⟩
   obtain⟨_,-,-,a',c',rfl,-⟩:=hv
   conv=>whnf
   intro L Y hC;obtain⟨-,a2,c2,e2,hr,hs⟩:=hC;cases e2;have a4:ps[j]?=some x:=by have:=ab 0 [] (by rw[P4];rfl);simpa using this
   have ax:L.M=(A++Z)++Mc:=by rw[Y.own,hA,append_assoc]
   refine⟨hg,(bj j x a' c' L (A++Z) Mc a4 (h0.trans Y.lg.frz2) hr hs ax (a7 j ⟨U.I,Mc,U.tok⟩ ⟨L.I,Mc,L.tok⟩ ⟨Y.imm,rfl,Y.tok⟩ hI)).mono ?_⟩;rintro v W (⟨rfl,ai,w,am,bp⟩|⟨rfl,X',w,am,hE,af⟩) -
   .repeat refine⟨rfl,?_⟩
    conv=>whnf
    refine .inl ⟨rfl,Y.lg.frz2.trans ai,w,?_,by grind[P4]⟩;rcases G with⟨e1,g2,hM⟩|⟨b,c,len,cap,e1,g1,g2,g3,hM,g5⟩
    .refine .inl ⟨e1,g2,?_⟩
     simp_all
    .refine .inr ⟨b,c,len,cap,e1,g1,g2,g3,?_,g5⟩
     grind[append_cancel_right,append_assoc]
   .repeat refine⟨rfl,?_⟩
    conv=>whnf
    exact .inr ⟨rfl,X',w,am,hE,λ x o hx=>af x o (Y.imm x o hx)⟩
  .simp at hc;omega
 |succ m ih=>
  intro x i j xv U Z Mc bo hi h0 aa G ab hI;obtain⟨sa,sl,sc,rfl,au,-⟩:=G.src;have av:x.length=sl:=by have e:=(Q0 (f:=encII) (n:=2) (λ _=>rfl) x).symm.trans au;omega
  subst av;have be:(x.flatMap encII).length=x.length*2:=Q0 (f:=encII) (λ _=>rfl) x;refine Qb.of (args:=[_,_,_,_,_,_]) V8 Qf S1 ?_;refine⟨_,aa.m.sees3 (o:=0) rfl,?_⟩
  repeat refine⟨rfl,?_⟩
  conv=>whnf
  apply Qe<;>intro hc
  .simp at hc;omega
  clear hc
  refine⟨Nat×Nat,λ y=>[(0,.slice sa x.length sc),(2,.pointer (some ⟨bm,0,none⟩)),(3,.pointer (some ⟨bt,0,none⟩)),(4,.pointer (some ⟨bl,0,none⟩)),(5,.pointer (some ⟨bn,0,none⟩)),(9,.int .i64 y.1)],
   λ y U'=>U.frz.lg U'.frz/\y.1<=l.length/\(∃w,Acc 84 2 (.slice sa x.length sc) (x.flatMap encII) U'.M (Z++w)/\I y.2 ⟨U'.I,w,U'.tok⟩)/\(∀(i':Nat)q,(TM.parts (l.drop y.1) (m+1))[i']?=some q->ps[y.2+i']?=some (x++q))/\y.2+(TM.parts (l.drop y.1) (m+1)).length=j+(TM.parts (l.drop i) (m+1)).length,
   λ y=>l.length-y.1,(i,j),T1,⟨⟨λ _ _ h=>h,⟨[],rfl⟩,rfl⟩,hi,⟨Mc,G,hI⟩,ab,rfl⟩,?_⟩
  rintro⟨i,jj⟩f L⟨ai,hi,⟨w,G,hI⟩,ab,V⟩;simp only at hi ab V hI;have an:=aa.lg ai;obtain⟨la,lc,ay,aq⟩:=an.l;have a1:Zu ((i:Int)+1):=I1
  refine⟨_,ay.sees3 (o:=0) rfl,?_⟩
  repeat refine⟨rfl,?_⟩
  conv=>whnf
  apply Qe<;>intro hc
  .have hlt:i<l.length:=by simpa using hc
   obtain⟨ad,e,vs,hx,rfl,bq,rfl,-,bi⟩:=Q5.at aq hlt;have bh:=La (m:=m) hx;rw[bh]at ab V;rw[length_append,length_map]at V;have bg:Zi L.frz bn _:=an.n.imI λ _ _ h=>h;have bf:Zi L.frz bl _:=ay.imI λ _ _ h=>h
   conv=>whnf
   intro ac P
   refine SQ (mu:=[1006]) (ops:=Pl Tryz.f169 6) (id:=6) P [7,8] [[0,1,2,3,4,5,6,9,10,7,8]] [11] Ls wg Qf K1 K1 K1 K1 K1
    (λ f' aw U'=>aw=[]/\∃(aj:Value)(X:List Qx),XF f' [(0,.slice sa x.length sc),(2,.pointer (some ⟨bm,0,none⟩)),(3,.pointer (some ⟨bt,0,none⟩)),(4,.pointer (some ⟨bl,0,none⟩)),(5,.pointer (some ⟨bn,0,none⟩)),(9,.int .i64 i),(26,.func (.func 169) #[] #[.pointer (some ⟨bm,0,none⟩),.pointer (some ⟨bt,0,none⟩),.pointer (some ⟨bl,0,none⟩),.pointer (some ⟨bn,0,none⟩)]),(34,aj),(36,.int .i64 ((i:Int)+1))]/\Acc 84 2 aj (x.flatMap encII++encII e) U'.M (X++(Z++w))/\(∀ae B,Acc 84 2 aj (x.flatMap encII++encII e) ae (X++B)->∃M3:List Qx,M3.Sublist ae/\Acc 84 2 (.slice sa x.length sc) (x.flatMap encII) M3 B)/\L.frz.lg U') ?_ ?_
   .intro l' hl';simp only[Ls,mem_cons,not_mem_nil,or_false]at hl';subst hl';refine⟨_,bg.sees3 (o:=0) rfl,_,bf.sees3 (o:=0) rfl,ad,i,⟨rfl,rfl,hlt⟩,_,⟨rfl,bi⟩,a1,λ v U'=>∃N,v=.slice (some ⟨N,0,none⟩) 1 1/\Zi U' N (encII e).toArray/\L.le U',λ v L W⟨N,e1,hb,hl⟩z=>⟨N,e1,hb.le z,hl.trans z⟩,λ v U'⟨N,e1,hb,hl⟩=>⟨hl.imm,⟨_,(append_nil _).symm⟩,hl.tok⟩,λ U' hC=>?_,λ v hv=>?_⟩
    .have z:=hC
     conv=>whnf
     intro N az;exact Zk az λ U3 bc hb=>⟨U3,.refl _,N,rfl,hb,Qa.le.trans z bc⟩
    obtain⟨_,N,rfl,-⟩:=hv;refine⟨λ v U'=>∃X,(∃a' l' c',v=.slice a' l' c')/\Acc 84 2 v (x.flatMap encII++encII e) U'.M (X++(Z++w))/\(∀ae B,Acc 84 2 v (x.flatMap encII++encII e) ae (X++B)->∃M3:List Qx,M3.Sublist ae/\Acc 84 2 (.slice sa x.length sc) (x.flatMap encII) M3 B)/\L.frz.lg U',λ v L W⟨X,hs,h1,h2,h3⟩z=>⟨X,hs,by rw[z.own];exact h1,h2,h3.trans z.lg⟩,λ v U'⟨X,hs,h1,h2,h3⟩=>h3,λ U' hC=>?_,λ v hv=>?_⟩
    .obtain⟨b33',e33,hb33,z⟩:=hC;cases e33
     conv=>whnf
     refine F6 (v:=.slice sa x.length sc) (cs:=x.flatMap encII) (new:=encII e) (M₀:=Z++w) Y5 rfl rfl (by rw[z.own];exact G) (.inr ⟨_,rfl,hb33.rd⟩) rfl (by simp[encII,Value.single]) (by rw[be];simp[encII];omega) (by simp[encII]) λ v' M' X h1 h2=>?_;refine⟨_,.refl _,X,?_,h1,h2,⟨z.imm,⟨_,(append_nil _).symm⟩,z.tok⟩⟩;obtain⟨ta,tl,tc,e1,-⟩:=Acc.src (U:={ U' with M:=M' }) h1;simp_all
    obtain⟨_,X,⟨va,vl,vc,rfl⟩,-⟩:=hv
    conv=>whnf
    rintro U'⟨ba,-,h1,h2,h3⟩;exact⟨rfl,_,ba,T1,h1,h2,h3⟩
   rintro f' aw W⟨rfl,aj,X,a0,ap,a5,ag⟩;rw[<- a0.ovr];clear a0;obtain⟨va,vl,vc,rfl,-⟩:=ap.src;have K:U.frz.lg W.frz:=ai.trans ag.frz2;have bk:(x++[e]).flatMap encII=x.flatMap encII++encII e:=by rw[flatMap_append];simp
   have Q:=ih (x++[e]) (i+1) jj (.slice va vl vc) W (X++Z) w (by grind) O1 (h0.trans K) (aa.lg K) S2 (λ t q hq=>by
    grind) (a7 jj ⟨L.I,w,L.tok⟩ ⟨W.I,w,W.tok⟩ ⟨ag.imm,rfl,ag.tok⟩ hI)
   have Q:=Q.post (R':=λ v U'=>(v=.bool false/\W.frz.lg U'.frz/\∃F,Acc 84 2 (.slice sa x.length sc) (x.flatMap encII) U'.M (Z++F)/\I (jj+(TM.parts (l.drop (i+1)) m).length) ⟨U'.I,F,U'.tok⟩)\/(v=.bool true/\∃X' w,U'.M=X'++w/\E ⟨U'.I,w,U'.tok⟩/\∀x o,W.I x=some o->U'.I x=some o)) λ v U' hv=>by
    rcases hv with⟨rfl,hl,F,ha,ao⟩|h
    .rw[bk,append_assoc]at ha;obtain⟨M3,a8,bd⟩:=a5 _ _ ha;exact⟨_,Z1 a8,.inl ⟨rfl,hl,F,bd,ao⟩⟩
    .exact⟨U',.refl _,.inr h⟩
   refine⟨V8.any,Q.mono ?_⟩;rintro v U3 (⟨rfl,hl,F,ha,ao⟩|⟨rfl,X',F,bb,hE,af⟩) -
   .conv=>whnf
    intro a' H;refine⟨by rw[H.size,P.size],_,H.get,?_⟩;rw[H.ds];clear H P;refine⟨a1,rfl,(i+1,jj+(TM.parts (l.drop (i+1)) m).length),T1,⟨K.trans hl,by show i+1<=l.length;omega,⟨F,ha,ao⟩,λ t q hq=>?_,by show jj+(TM.parts (l.drop (i+1)) m).length+(TM.parts (l.drop (i+1)) (m+1)).length=_;omega⟩,L1⟩;simp_all[TM.parts,Nat.add_assoc,getElem?_append_right,length_map,Nat.add_sub_cancel_left]
   .conv=>whnf
    intro a' H;refine⟨by rw[H.size,P.size],_,H.get,?_⟩;rw[H.ds];clear H P
    repeat refine⟨rfl,?_⟩
    conv=>whnf
    exact .inr ⟨rfl,X',F,bb,hE,λ x o hx=>af x o (K.imm x o hx)⟩
  .have hge:l.length<=i:=by simpa using hc
   rw[L4 hge,length_nil,Nat.add_zero]at V
   repeat refine⟨rfl,?_⟩
   conv=>whnf
   grind
set_option maxHeartbeats 1000000 in
def C6(l:List Int)(hl:l.length<=1000)(ah:Nat)(hm:ah<=1000)(g:FuncId)(first al:Array Value)(hg:(prog.funcs[g]?.any λ fd=>fd.body.isSome&&fd.name != "runtime.NumGoroutine")=true){bm bt bl bn:Nat}{ps:List (List Int)}{I:Nat->Qa T->Prop}{E:Qa T->Prop}{U₀:Qa T}
  (a7:∀k L W,L.le W->I k L->I k W) (bj:Gf S g first al Zz 1 ps I E U₀) :
  ∀(m:Nat)(x:List Int)(i j:Nat)(xv:Value)(U:Qa T)(Z Mc:List Qx),x.length+m=ah->i<=l.length->U₀.frz.lg U.frz->Po U l ah g first al bm bt bl bn->Acc 3 1 xv (x.flatMap Zz) U.M (Z++Mc)->(∀(i':Nat)q,(TM.parts (l.drop i) m)[i']?=some q->ps[j+i']?=some (x++q))->I j ⟨U.I,Mc,U.tok⟩ ->
   Qb S 167 #[xv,.int .i64 i,.pointer (some ⟨bm,0,none⟩),.pointer (some ⟨bt,0,none⟩),.pointer (some ⟨bl,0,none⟩),.pointer (some ⟨bn,0,none⟩)]
    (λ v U'=>(v=.bool false/\U.frz.lg U'.frz/\∃w,Acc 3 1 xv (x.flatMap Zz) U'.M (Z++w)/\I (j+(TM.parts (l.drop i) m).length) ⟨U'.I,w,U'.tok⟩)\/(v=.bool true/\∃X' w,U'.M=X'++w/\E ⟨U'.I,w,U'.tok⟩/\∀x o,U.I x=some o->U'.I x=some o)) U:=by
 intro m
 induction m with
 |zero=>
  intro x i j xv U Z Mc bo hi h0 aa G ab hI;obtain⟨sa,sl,sc,rfl,au,a6⟩:=G.src;have av:x.length=sl:=by have e:=(Q0 (f:=Zz) (n:=1) (λ _=>rfl) x).symm.trans au;omega
  subst av
  obtain⟨A,hA⟩:∃A,U.M=A++(Z++Mc):=by
   rcases G with⟨_,_,hM⟩|⟨b,c,len,cap,_,_,_,_,hM,_⟩
   .exact⟨[],hM⟩
   .exact⟨[_],hM⟩
  refine Qb.of (args:=[_,_,_,_,_,_]) KK Qf S1 ?_;refine⟨_,aa.m.sees3 (o:=0) rfl,?_⟩
  repeat refine⟨rfl,?_⟩
  conv=>whnf
  apply Qe<;>intro hc
  .refine⟨_,aa.t.sees3 (o:=0) rfl,λ v U'=>∃a' ak,v=.slice a' x.length ak/\Q5 U'.frz a' x.length 1 x (λ x vs=>vs=Zz x)/\(∀ad,a'=some ad->ad.spot=none)/\x.length<=ak,λ v L W⟨a',c',e,h,s⟩z=>⟨a',c',e,h.lg z.lg.frz2 λ _ _ h=>h,s⟩,λ U' z hC=>?_,λ v hv=>?_⟩
   .refine⟨GP.any,(xP sa sc x (QS.lg' a6 z.lg) O1).mono ?_⟩;rintro v a9⟨hv,a3⟩-;exact⟨a9,.refl _,hv,a3⟩
   obtain⟨_,-,-,a',c',rfl,-⟩:=hv
   conv=>whnf
   intro L Y hC;obtain⟨-,a2,c2,e2,hr,hs⟩:=hC;cases e2;have a4:ps[j]?=some x:=by have:=ab 0 [] (by rw[P4];rfl);simpa using this
   have ax:L.M=(A++Z)++Mc:=by rw[Y.own,hA,append_assoc]
   refine⟨hg,(bj j x a' c' L (A++Z) Mc a4 (h0.trans Y.lg.frz2) hr hs ax (a7 j ⟨U.I,Mc,U.tok⟩ ⟨L.I,Mc,L.tok⟩ ⟨Y.imm,rfl,Y.tok⟩ hI)).mono ?_⟩;rintro v W (⟨rfl,ai,w,am,bp⟩|⟨rfl,X',w,am,hE,af⟩) -
   .repeat refine⟨rfl,?_⟩
    conv=>whnf
    refine .inl ⟨rfl,Y.lg.frz2.trans ai,w,?_,by grind[P4]⟩;rcases G with⟨e1,g2,hM⟩|⟨b,c,len,cap,e1,g1,g2,g3,hM,g5⟩
    .refine .inl ⟨e1,g2,?_⟩
     simp_all
    .refine .inr ⟨b,c,len,cap,e1,g1,g2,g3,?_,g5⟩
     grind[append_cancel_right,append_assoc]
   .repeat refine⟨rfl,?_⟩
    conv=>whnf
    exact .inr ⟨rfl,X',w,am,hE,λ x o hx=>af x o (Y.imm x o hx)⟩
  .simp at hc;omega
 |succ m ih=>
  intro x i j xv U Z Mc bo hi h0 aa G ab hI;obtain⟨sa,sl,sc,rfl,au,-⟩:=G.src;have av:x.length=sl:=by have e:=(Q0 (f:=Zz) (n:=1) (λ _=>rfl) x).symm.trans au;omega
  subst av;have be:(x.flatMap Zz).length=x.length*1:=Q0 (f:=Zz) (λ _=>rfl) x;refine Qb.of (args:=[_,_,_,_,_,_]) KK Qf S1 ?_;refine⟨_,aa.m.sees3 (o:=0) rfl,?_⟩
  repeat refine⟨rfl,?_⟩
  conv=>whnf
  apply Qe<;>intro hc
  .simp at hc;omega
  clear hc
  refine⟨Nat×Nat,λ y=>[(0,.slice sa x.length sc),(2,.pointer (some ⟨bm,0,none⟩)),(3,.pointer (some ⟨bt,0,none⟩)),(4,.pointer (some ⟨bl,0,none⟩)),(5,.pointer (some ⟨bn,0,none⟩)),(9,.int .i64 y.1)],
   λ y U'=>U.frz.lg U'.frz/\y.1<=l.length/\(∃w,Acc 3 1 (.slice sa x.length sc) (x.flatMap Zz) U'.M (Z++w)/\I y.2 ⟨U'.I,w,U'.tok⟩)/\(∀(i':Nat)q,(TM.parts (l.drop y.1) (m+1))[i']?=some q->ps[y.2+i']?=some (x++q))/\y.2+(TM.parts (l.drop y.1) (m+1)).length=j+(TM.parts (l.drop i) (m+1)).length,
   λ y=>l.length-y.1,(i,j),T1,⟨⟨λ _ _ h=>h,⟨[],rfl⟩,rfl⟩,hi,⟨Mc,G,hI⟩,ab,rfl⟩,?_⟩
  rintro⟨i,jj⟩f L⟨ai,hi,⟨w,G,hI⟩,ab,V⟩;simp only at hi ab V hI;have an:=aa.lg ai;obtain⟨la,lc,ay,aq⟩:=an.l;have a1:Zu ((i:Int)+1):=I1
  refine⟨_,ay.sees3 (o:=0) rfl,?_⟩
  repeat refine⟨rfl,?_⟩
  conv=>whnf
  apply Qe<;>intro hc
  .have hlt:i<l.length:=by simpa using hc
   obtain⟨ad,e,vs,hx,rfl,bq,rfl,-,bi⟩:=Q5.at aq hlt;have bh:=La (m:=m) hx;rw[bh]at ab V;rw[length_append,length_map]at V;have bg:Zi L.frz bn _:=an.n.imI λ _ _ h=>h;have bf:Zi L.frz bl _:=ay.imI λ _ _ h=>h
   conv=>whnf
   intro ac P
   refine SQ (mu:=[1006]) (ops:=Pl Tryz.f167 6) (id:=6) P [7,8] [[0,1,2,3,4,5,6,9,10,7,8]] [11] F7 Mz Qf K1 K1 K1 K1 K1
    (λ f' aw U'=>aw=[]/\∃(aj:Value)(X:List Qx),XF f' [(0,.slice sa x.length sc),(2,.pointer (some ⟨bm,0,none⟩)),(3,.pointer (some ⟨bt,0,none⟩)),(4,.pointer (some ⟨bl,0,none⟩)),(5,.pointer (some ⟨bn,0,none⟩)),(9,.int .i64 i),(26,.func (.func 167) #[] #[.pointer (some ⟨bm,0,none⟩),.pointer (some ⟨bt,0,none⟩),.pointer (some ⟨bl,0,none⟩),.pointer (some ⟨bn,0,none⟩)]),(34,aj),(36,.int .i64 ((i:Int)+1))]/\Acc 3 1 aj (x.flatMap Zz++Zz e) U'.M (X++(Z++w))/\(∀ae B,Acc 3 1 aj (x.flatMap Zz++Zz e) ae (X++B)->∃M3:List Qx,M3.Sublist ae/\Acc 3 1 (.slice sa x.length sc) (x.flatMap Zz) M3 B)/\L.frz.lg U') ?_ ?_
   .intro l' hl';simp only[F7,mem_cons,not_mem_nil,or_false]at hl';subst hl';refine⟨_,bg.sees3 (o:=0) rfl,_,bf.sees3 (o:=0) rfl,ad,i,⟨rfl,rfl,hlt⟩,_,bi 0 _ rfl,a1,λ v U'=>∃N,v=.slice (some ⟨N,0,none⟩) 1 1/\Zi U' N (Zz e).toArray/\L.le U',λ v L W⟨N,e1,hb,hl⟩z=>⟨N,e1,hb.le z,hl.trans z⟩,λ v U'⟨N,e1,hb,hl⟩=>⟨hl.imm,⟨_,(append_nil _).symm⟩,hl.tok⟩,λ U' hC=>?_,λ v hv=>?_⟩
    .have z:=hC
     conv=>whnf
     intro N az;exact Zk az λ U3 bc hb=>⟨U3,.refl _,N,rfl,hb,Qa.le.trans z bc⟩
    obtain⟨_,N,rfl,-⟩:=hv;refine⟨λ v U'=>∃X,(∃a' l' c',v=.slice a' l' c')/\Acc 3 1 v (x.flatMap Zz++Zz e) U'.M (X++(Z++w))/\(∀ae B,Acc 3 1 v (x.flatMap Zz++Zz e) ae (X++B)->∃M3:List Qx,M3.Sublist ae/\Acc 3 1 (.slice sa x.length sc) (x.flatMap Zz) M3 B)/\L.frz.lg U',λ v L W⟨X,hs,h1,h2,h3⟩z=>⟨X,hs,by rw[z.own];exact h1,h2,h3.trans z.lg⟩,λ v U'⟨X,hs,h1,h2,h3⟩=>h3,λ U' hC=>?_,λ v hv=>?_⟩
    .obtain⟨b33',e33,hb33,z⟩:=hC;cases e33
     conv=>whnf
     refine F6 (v:=.slice sa x.length sc) (cs:=x.flatMap Zz) (new:=Zz e) (M₀:=Z++w) Hf rfl rfl (by rw[z.own];exact G) (.inr ⟨_,rfl,hb33.rd⟩) rfl (by simp[Zz,Value.single]) (by rw[be];simp[Zz];omega) (by simp[Zz]) λ v' M' X h1 h2=>?_;refine⟨_,.refl _,X,?_,h1,h2,⟨z.imm,⟨_,(append_nil _).symm⟩,z.tok⟩⟩;obtain⟨ta,tl,tc,e1,-⟩:=Acc.src (U:={ U' with M:=M' }) h1;simp_all
    obtain⟨_,X,⟨va,vl,vc,rfl⟩,-⟩:=hv
    conv=>whnf
    rintro U'⟨ba,-,h1,h2,h3⟩;exact⟨rfl,_,ba,T1,h1,h2,h3⟩
   rintro f' aw W⟨rfl,aj,X,a0,ap,a5,ag⟩;rw[<- a0.ovr];clear a0;obtain⟨va,vl,vc,rfl,-⟩:=ap.src;have K:U.frz.lg W.frz:=ai.trans ag.frz2;have bk:(x++[e]).flatMap Zz=x.flatMap Zz++Zz e:=by rw[flatMap_append];simp
   have Q:=ih (x++[e]) (i+1) jj (.slice va vl vc) W (X++Z) w (by grind) O1 (h0.trans K) (aa.lg K) S2 (λ t q hq=>by
    grind) (a7 jj ⟨L.I,w,L.tok⟩ ⟨W.I,w,W.tok⟩ ⟨ag.imm,rfl,ag.tok⟩ hI)
   have Q:=Q.post (R':=λ v U'=>(v=.bool false/\W.frz.lg U'.frz/\∃F,Acc 3 1 (.slice sa x.length sc) (x.flatMap Zz) U'.M (Z++F)/\I (jj+(TM.parts (l.drop (i+1)) m).length) ⟨U'.I,F,U'.tok⟩)\/(v=.bool true/\∃X' w,U'.M=X'++w/\E ⟨U'.I,w,U'.tok⟩/\∀x o,W.I x=some o->U'.I x=some o)) λ v U' hv=>by
    rcases hv with⟨rfl,hl,F,ha,ao⟩|h
    .rw[bk,append_assoc]at ha;obtain⟨M3,a8,bd⟩:=a5 _ _ ha;exact⟨_,Z1 a8,.inl ⟨rfl,hl,F,bd,ao⟩⟩
    .exact⟨U',.refl _,.inr h⟩
   refine⟨KK.any,Q.mono ?_⟩;rintro v U3 (⟨rfl,hl,F,ha,ao⟩|⟨rfl,X',F,bb,hE,af⟩) -
   .conv=>whnf
    intro a' H;refine⟨by rw[H.size,P.size],_,H.get,?_⟩;rw[H.ds];clear H P;refine⟨a1,rfl,(i+1,jj+(TM.parts (l.drop (i+1)) m).length),T1,⟨K.trans hl,by show i+1<=l.length;omega,⟨F,ha,ao⟩,λ t q hq=>?_,by show jj+(TM.parts (l.drop (i+1)) m).length+(TM.parts (l.drop (i+1)) (m+1)).length=_;omega⟩,L1⟩;simp_all[TM.parts,Nat.add_assoc,getElem?_append_right,length_map,Nat.add_sub_cancel_left]
   .conv=>whnf
    intro a' H;refine⟨by rw[H.size,P.size],_,H.get,?_⟩;rw[H.ds];clear H P
    repeat refine⟨rfl,?_⟩
    conv=>whnf
    exact .inr ⟨rfl,X',F,bb,hE,λ x o hx=>af x o (K.imm x o hx)⟩
  .have hge:l.length<=i:=by simpa using hc
   rw[L4 hge,length_nil,Nat.add_zero]at V
   repeat refine⟨rfl,?_⟩
   conv=>whnf
   grind
end Go.Proofs
namespace Go.TM
variable{T:Type}{P:Program}{S:Sys P T}{U U':Qa T}
def WP{α:Type}(l:List α)(p:List α->Bool):Nat->Nat->Option (List α)
 |_,0=>none
 |m,n+1=>match(TM.parts l m).find? p with
  |some x=>some x
  |none=>WP l p (m+1) n
def BW{α:Type}(l:List α)(p:List α->Bool)(m n:Nat):WP l p m (n+1)=match(TM.parts l m).find? p with
  |some x=>some x
  |none=>WP l p (m+1) n:=rfl
end Go.TM
namespace Go.Proofs
open Go.TM
variable{T:Type}{S:TM.Sys prog T}{U:Qa T}
attribute [local irreducible] Qb Zl Wt
def px(l:List (Int×Int))(la:Option Addr)(lc:Nat)(N:Q5 U.frz la l.length 2 l (λ x vs=>vs=encII x))(hl:l.length<=1000)(e:Nat)(hm:e<=1000)(g:FuncId)(first f:Array Value)(hg:(prog.funcs[g]?.any λ fd=>fd.body.isSome&&fd.name != "runtime.NumGoroutine")=true){I:Nat->Qa T->Prop}{E:Qa T->Prop}
  (Y:∀k Z U2,Z.le U2->I k Z->I k U2) (ae:Gf S g first f encII 2 (TM.parts l e) I E U) (hI:I 0 U) :
  Qb S 142 #[.agg #[.slice la l.length lc],.int .i64 e,.func (.func g) first f] (λ v U'=>(v=.bool false/\U.frz.lg U'.frz/\I (TM.parts l e).length U')\/(v=.bool true/\E U'/\∀x o,U.I x=some o->U'.I x=some o)) U:=by
 refine Qb.post (R:=λ v U'=>(v=.bool false/\U.frz.lg U'.frz/\I (TM.parts l e).length U')\/(v=.bool true/\∃X' w,U'.M=X'++w/\E ⟨U'.I,w,U'.tok⟩/\∀x o,U.I x=some o->U'.I x=some o)) (Qb.of (args:=[_,_,_]) UP Qf S1 ?_) λ v U' hv=>?_
 .conv=>whnf
  intro b3 Z ab H;have H:Zi Z b3 #[.slice la l.length lc]:=H
  conv=>whnf
  intro b4 U2 Q K;have K:Zi U2 b4 #[.int .i64 e]:=K
  conv=>whnf
  intro b5 U3 G L;have L:Zi U3 b5 #[.func (.func g) first f]:=L
  conv=>whnf
  intro b7 ad;refine⟨_,.refl _,rfl,Zt (vs:=[.func (.func 169) #[] #[.pointer (some ⟨b4,0,none⟩),.pointer (some ⟨b5,0,none⟩),.pointer (some ⟨b3,0,none⟩),.pointer (some ⟨b7,0,none⟩)]]) ad rfl (by simp[Value.single]) λ U4 B W=>?_⟩;have z:=((ab.trans Q).trans G).trans B;have ac:PC U4 l e g first f b4 b5 b3 b7:=⟨K.le (G.trans B),L.le B,⟨la,lc,H.le ((Q.trans G).trans B),N.lg z.lg.frz2 λ _ _ h=>h⟩,W⟩
  refine⟨_,W.sees3 (o:=0) rfl,V8.any,(AK l hl e hm g first f hg Y ae e [] 0 0 (.slice none 0 0) U4 [] U4.M S1 O1 z.lg.frz2 ac .nil (λ i' q hq=>S2) (Y 0 U U4 z hI)).mono ?_⟩;rintro v U5 (⟨rfl,X,w,V,P⟩|⟨rfl,X',w,aa,hE,F⟩) -
  .rcases V with⟨_,_,hM⟩|⟨b,c,len,cap,e1,_⟩
   .rw[Nat.zero_add]at P
    repeat refine⟨rfl,?_⟩
    conv=>whnf
    refine .inl ⟨rfl,z.lg.frz2.trans X,?_⟩;have:U5.M=w:=hM;obtain⟨i5,m5,t5⟩:=U5;simp_all
   .cases e1
  .repeat refine⟨rfl,?_⟩
   conv=>whnf
   exact .inr ⟨rfl,X',w,aa,hE,λ x o hx=>F x o (z.imm x o hx)⟩
 .rcases hv with h|⟨rfl,X',w,hM,hE,F⟩
  .exact⟨U',.refl _,.inl h⟩
  grind[Z1,sublist_append_right]
def kR(l:List Int)(la:Option Addr)(lc:Nat)(N:Q5 U.frz la l.length 1 l (λ x vs=>vs=Zz x))(hl:l.length<=1000)(e:Nat)(hm:e<=1000)(g:FuncId)(first f:Array Value)(hg:(prog.funcs[g]?.any λ fd=>fd.body.isSome&&fd.name != "runtime.NumGoroutine")=true){I:Nat->Qa T->Prop}{E:Qa T->Prop}
  (Y:∀k Z U2,Z.le U2->I k Z->I k U2) (ae:Gf S g first f Zz 1 (TM.parts l e) I E U) (hI:I 0 U) :
  Qb S 134 #[.agg #[.slice la l.length lc],.int .i64 e,.func (.func g) first f] (λ v U'=>(v=.bool false/\U.frz.lg U'.frz/\I (TM.parts l e).length U')\/(v=.bool true/\E U'/\∀x o,U.I x=some o->U'.I x=some o)) U:=by
 refine Qb.post (R:=λ v U'=>(v=.bool false/\U.frz.lg U'.frz/\I (TM.parts l e).length U')\/(v=.bool true/\∃X' w,U'.M=X'++w/\E ⟨U'.I,w,U'.tok⟩/\∀x o,U.I x=some o->U'.I x=some o)) (Qb.of (args:=[_,_,_]) IS Qf S1 ?_) λ v U' hv=>?_
 .conv=>whnf
  intro b3 Z ab H;have H:Zi Z b3 #[.slice la l.length lc]:=H
  conv=>whnf
  intro b4 U2 Q K;have K:Zi U2 b4 #[.int .i64 e]:=K
  conv=>whnf
  intro b5 U3 G L;have L:Zi U3 b5 #[.func (.func g) first f]:=L
  conv=>whnf
  intro b7 ad;refine⟨_,.refl _,rfl,Zt (vs:=[.func (.func 167) #[] #[.pointer (some ⟨b4,0,none⟩),.pointer (some ⟨b5,0,none⟩),.pointer (some ⟨b3,0,none⟩),.pointer (some ⟨b7,0,none⟩)]]) ad rfl (by simp[Value.single]) λ U4 B W=>?_⟩;have z:=((ab.trans Q).trans G).trans B;have ac:Po U4 l e g first f b4 b5 b3 b7:=⟨K.le (G.trans B),L.le B,⟨la,lc,H.le ((Q.trans G).trans B),N.lg z.lg.frz2 λ _ _ h=>h⟩,W⟩
  refine⟨_,W.sees3 (o:=0) rfl,KK.any,(C6 l hl e hm g first f hg Y ae e [] 0 0 (.slice none 0 0) U4 [] U4.M S1 O1 z.lg.frz2 ac .nil (λ i' q hq=>S2) (Y 0 U U4 z hI)).mono ?_⟩;rintro v U5 (⟨rfl,X,w,V,P⟩|⟨rfl,X',w,aa,hE,F⟩) -
  .rcases V with⟨_,_,hM⟩|⟨b,c,len,cap,e1,_⟩
   .rw[Nat.zero_add]at P
    repeat refine⟨rfl,?_⟩
    conv=>whnf
    refine .inl ⟨rfl,z.lg.frz2.trans X,?_⟩;have:U5.M=w:=hM;obtain⟨i5,m5,t5⟩:=U5;simp_all
   .cases e1
  .repeat refine⟨rfl,?_⟩
   conv=>whnf
   exact .inr ⟨rfl,X',w,aa,hE,λ x o hx=>F x o (z.imm x o hx)⟩
 .rcases hv with h|⟨rfl,X',w,hM,hE,F⟩
  .exact⟨U',.refl _,.inl h⟩
  grind[Z1,sublist_append_right]
def OZ(S:TM.Sys prog T)(g:FuncId)(first b:Array Value)(p:List Int->Bool)(l:List Int)(U₀:Qa T):Prop:=
 ∀(q:List Int)(a:Option Addr)(cap:Nat)(U:Qa T),q.Sublist l->(∃X e,(∀x o,U₀.I x=some o->e x=some o)/\U=⟨e,X++U₀.M,U₀.tok⟩)->Z5 U.frz a q.length q->Qb S g (first.toList++[Value.slice a q.length cap]++b.toList).toArray (λ v U'=>v=.bool (p q)/\U'=U) U
def pV{a:Option Addr}{l:List Int}(h:Q5 U a l.length 1 l (λ x vs=>vs=Zz x)):Z5 U a l.length l:=by
 refine⟨rfl,λ i x w=>?_⟩;obtain⟨b,vs,e,B,rfl,_,f⟩:=h.2 i x w;have z:=f 0 (.int .i64 x) rfl;obtain⟨bb,E,F⟩:=b;simp_all[Qo,Nat.add_zero]
set_option maxHeartbeats 1000000 in
def EU(l:List Int)(la:Option Addr)(lc:Nat)(af:Q5 U.frz la l.length 1 l (λ x vs=>vs=Zz x))(hl:l.length<=1000)(b:Nat)(hm:b<=900)(g:FuncId)(first z:Array Value)(hg:(prog.funcs[g]?.any λ fd=>fd.body.isSome&&fd.name != "runtime.NumGoroutine")=true)(p:List Int->Bool)
  (aw:OZ S g first z p l U) :
  Qb S 84 #[.slice la l.length lc,.int .i64 b,.func (.func g) first z] (λ v U'=>(∃v1,v=.tuple #[v1,.bool (WP l p 0 (b+1)).isSome]/\QG U'.frz v1 ((WP l p 0 (b+1)).getD []))/\U.le U') U:=by
 refine Qb.grown (R:=λ v U'=>∃v1,v=.tuple #[v1,.bool (WP l p 0 (b+1)).isSome]/\QG U' v1 ((WP l p 0 (b+1)).getD [])) (λ v N V hl⟨v1,e,h1⟩=>⟨v1,e,h1.lg hl⟩) (Qb.of (args:=[_,_,_]) O6 Qf S1 ?_)
 conv=>whnf
 intro b5 N F ad;have ad:Zi N b5 #[.func (.func g) first z]:=ad;refine⟨I1,?_⟩
 refine⟨Nat,λ i=>[(0,.slice la l.length lc),(5,.pointer (some ⟨b5,0,none⟩)),(11,.int .i64 ((b:Int)+1)),(12,.int .i64 i)],
  λ i U'=>N.frz.lg U'.frz/\(∃X,U'.M=X++U.M)/\i<=b+1/\WP l p 0 (b+1)=WP l p i (b+1-i),λ i=>b+1-i,0,T1,⟨⟨λ _ _ h=>h,⟨[],rfl⟩,rfl⟩,⟨[],by rw[F.own];rfl⟩,O1,rfl⟩,?_⟩
 rintro i f V⟨Z,⟨X,hX⟩,hi,w⟩;have am:Zu ((i:Int)+1):=I1
 repeat refine⟨rfl,?_⟩
 conv=>whnf
 apply Qe<;>intro hc
 .have hlt:i<b+1:=by simp at hc;omega
  rw[show b+1-i=(b+1-(i+1))+1 by omega,BW l p i]at w
  conv=>whnf
  intro P a0;refine⟨_,.refl _,?_⟩;have ab:N.frz.lg (V.put P (.cells #[.slice none 0 0] 26)).frz:=Z;have ai:Zi (V.put P (.cells #[.slice none 0 0] 26)) b5 #[.func (.func g) first z]:=ad.imI Z.imm
  let ps:=TM.parts l i
  let J:Nat->Qa T->Prop:=λ k U'=>N.frz.lg U'.frz/\(∃Q,U'.M=.obj P (.cells #[Q] 26 (0,0))::(X++U.M))/\∀q∈ps.take k,p q=false
  let E:Qa T->Prop:=λ U'=>N.frz.lg U'.frz/\∃Q q,U'.M=.obj P (.cells #[Q] 26 (0,0))::(X++U.M)/\QG U'.frz Q q/\ps.find? p=some q
  have hJ:∀k N V,N.le V->J k N->J k V:=λ k s1 s2 aj⟨h1,⟨Q,hv⟩,h3⟩=>⟨h1.trans aj.lg.frz2,⟨Q,aj.own.trans hv⟩,h3⟩
  have ay:Gf S 135 #[] #[.pointer (some ⟨P,0,none⟩),.pointer (some ⟨b5,0,none⟩)] Zz 1 ps J E (V.put P (.cells #[.slice none 0 0] 26)):=by
   intro k q qa qc s Xs Mc hq h0 hr ax hM⟨Y,⟨Q,ac⟩,al⟩;have ac:Mc=.obj P (.cells #[Q] 26 (0,0))::(X++U.M):=ac;subst ac;have ah:Zi s b5 #[.func (.func g) first z]:=ai.imI h0.imm;have aa:=pV hr;have au:=(Gk.1 (mem_of_getElem? hq)).1;refine Qb.of (args:=[_,_,_]) Ea Qf S1 ?_;refine⟨rfl,Wh (vs:=[.slice qa q.length qc]) Xs hM rfl (by simp[Value.single]) λ s1 W ak ag=>?_⟩;have ae:Zi s1 b5 #[.func (.func g) first z]:=ah.imI λ x o L=>by rw[W];exact L
   have hz:s.frz.lg s1.frz:=⟨λ x o L=>by show s1.I x=_;rw[W];exact L,⟨[],rfl⟩,ak⟩
   have az:s1.tok=U.tok:=by
    have e1:s.tok=N.tok:=Y.tok;rw[ak,e1,F.tok]
   refine⟨_,ae.sees3 (o:=0) rfl,hg,(aw q qa qc s1 au ⟨Xs++(.obj P (.cells [.slice qa q.length qc].toArray 26 (0,0))::X),s1.I,λ x o L=>by rw[W];exact Y.imm x o (F.imm x o L),by
    obtain⟨i1,m1,t1⟩:=s1;simp_all⟩ (aa.lg hz)).mono ?_⟩
   rintro _ s'⟨rfl,av⟩-;obtain rfl:=av.symm;cases ap:p q with
   |false=>
    repeat refine⟨rfl,?_⟩
    conv=>whnf
    refine .inl ⟨rfl,hz,_,ag,⟨Y.trans hz,⟨_,rfl⟩,λ q' aq=>?_⟩⟩;rw[Ji hq,mem_append]at aq;grind
   |true=>
    repeat refine⟨rfl,?_⟩
    conv=>whnf
    refine .inr ⟨rfl,_,_,ag,⟨Y.trans hz,_,q,rfl,⟨qa,qc,rfl,aa.lg hz,ax.2⟩,?_⟩,λ x o L=>by rw[W];exact L⟩;rw[find?_eq_some_iff_getElem];obtain⟨hk,an⟩:=List.getElem?_eq_some_iff.1 hq;refine⟨ap,k,hk,an,λ j hj=>?_⟩;have:=al ps[j] (mem_take_iff_getElem.2 ⟨j,O1,rfl⟩);simp[this]
  refine⟨IS.any,(kR (U:=V.put P (.cells #[.slice none 0 0] 26)) l la lc (af.lg (F.lg.frz2.trans ab) λ _ _ h=>h) hl i O1 135 #[] #[.pointer (some ⟨P,0,none⟩),.pointer (some ⟨b5,0,none⟩)] Ea.any hJ ay ⟨ab,⟨_,by show _::V.M=_;rw[hX]⟩,S1⟩).mono ?_⟩;rintro v U3 (⟨rfl,-,B,⟨Q,K⟩,ao⟩|⟨rfl,⟨B,Q,q,K,⟨qa,qc,rfl,aa⟩,G⟩,-⟩) -
  .have H:ps.find? p=none:=by
    rw[find?_eq_none];intro q hq;rw[ao q (by rw[take_length];exact hq)];simp
   have H:(TM.parts l i).find? p=none:=H;rw[H]at w
   repeat refine⟨rfl,?_⟩
   refine⟨am,?_⟩
   conv=>whnf
   exact⟨rfl,i+1,T1,⟨B,⟨_::X,K⟩,O1,w⟩,by grind⟩
  .have G:(TM.parts l i).find? p=some q:=G;rw[G]at w;simp only at w
   repeat refine⟨rfl,?_⟩
   refine⟨_,Za [] K 0 _ rfl,?_⟩
   repeat refine⟨rfl,?_⟩
   conv=>whnf
   rw[w];exact⟨⟨_,rfl,⟨qa,qc,rfl,aa⟩⟩,⟨λ x o L=>B.imm x o (F.imm x o L),⟨_::X,K⟩,B.tok.trans F.tok⟩⟩
 .have hge:i=b+1:=by simp at hc;omega
  subst hge;rw[Nat.sub_self,WP]at w
  repeat refine⟨rfl,?_⟩
  conv=>whnf
  rw[w];exact⟨⟨_,rfl,.nil⟩,⟨λ x o L=>Z.imm x o (F.imm x o L),⟨X,hX⟩,Z.tok.trans F.tok⟩⟩
end Go.Proofs
namespace Go.TM
variable{T:Type}{P:Program}{S:Sys P T}{U U':Qa T}
def JQ(a b:Int×Int):Int:=if a=b then 0 else if a.1<b.1\/a.1=b.1/\a.2<b.2 then -1 else 1
def Q_:List (Int×Int)->List (Int×Int)->Int
 |[],[]=>0
 |[],_::_=>-1
 |_::_,[]=>1
 |a::l,b::r=>if JQ a b≠0 then JQ a b else Q_ l r
structure Bk.Srt(b:Bk)(n:Nat):Prop where
 s:∀c∈b.cs,Xe c.af
 l:∀c∈b.cs,c.af.length<=n
def DC{b:Int}:∀{l:List Int}{m:Int},m<b->J1 b (some m) l=0->(l.length:Int)<=b-1-m/\l.Pairwise (· < ·)/\∀x∈l,m<x
 |[],m,e,_=>⟨S3,.nil,S1⟩
 |n::l,m,e,h=>by
  rw[Wm]at h;split at h
  .rename_i hb;simp only[btw,Bool.and_eq_true,decide_eq_true_eq]at hb;simp only at h;split at h
   .cases h
   .obtain⟨h1,h2,h3⟩:=DC (l:=l) (m:=n) O1 h;refine⟨by rw[length_cons];omega,pairwise_cons.2 ⟨h3,h2⟩,λ x f=>?_⟩;grind
  .cases h
def kN{b:Int}{l:List Int}(z:0<=b)(h:J1 b none l=0):(l.length:Int)<=b/\l.Pairwise (· < ·):=by
 cases l with
 |nil=>simp_all
 |cons n l=>
  rw[Wm]at h;split at h
  .rename_i hb';simp only[btw,Bool.and_eq_true,decide_eq_true_eq]at hb';obtain⟨w,e,f⟩:=DC (l:=l) (m:=n) O1 h;exact⟨by grind,pairwise_cons.2 ⟨f,e⟩⟩
  .cases h
def Bk.Ok.asc{b:Bk}(h:b.Ok){c:Cs}(e:c∈b.cs):c.af.length<=5/\c.af.Pairwise (· < ·):=by
 have z:b.nc<=5:=by have:=h.nc;unfold Bk.nc;omega
 obtain⟨f,w⟩:=kN (b:=b.nc) (by unfold Bk.nc;omega) (h.ri c e);grind
def Bk.Ok.srt{b:Bk}(h:b.Ok):b.Srt 5:=⟨λ c e=>(h.asc e).2.imp λ h=>Int.le_of_lt h,λ c e=>(h.asc e).1⟩
def Bk.Ok.sml{b:Bk}(h:b.Ok):b.Sml:=by
 have w:=h.nr;have z:=h.nc;refine⟨O1,O1,λ c e=>⟨?_,λ g f=>?_,?_⟩⟩
 .have:=h.gl c e;omega
 .have:=(h.gs c e g f).1;omega
 .have:=(h.asc e).1;omega
def Bk.Srt.sty{b:Bk}{n:Nat}(h:b.Srt n)(s:Int×Int)(z:s.1.toNat<b.cs.length):(b.sty s).Srt (n+1):=by
 have w:b.cas s.1.toNat∈b.cs:=by
  simp only[Bk.cas,getD_eq_getElem?_getD,getElem?_eq_getElem z,Option.getD_some];exact getElem_mem z
 refine⟨λ c e=>?_,λ c e=>?_⟩
 .rcases mem_or_eq_of_mem_set e with f|rfl
  .exact h.s c f
  .exact OT _ _ (h.s _ w)
 .rcases mem_or_eq_of_mem_set e with f|rfl
  .have:=h.l c f;omega
  .have:=h.l _ w;show(ZH _ _).length<=_;rw[(Vw _ _).length_eq];simp;omega
def Bk.sty_len(b:Bk)(s:Int×Int):(b.sty s).cs.length=b.cs.length:=by simp[Bk.sty]
def Bk.stys_snoc(b:Bk)(l:List (Int×Int))(s:Int×Int):b.stys (l++[s])=(b.stys l).sty s:=by simp[Bk.stys]
def Bk.stys_len(b:Bk)(l:List (Int×Int)):(b.stys l).cs.length=b.cs.length:=by
 induction l generalizing b with
 |nil=>rfl
 |cons s l e=>exact(e (b.sty s)).trans (b.sty_len s)
def Bk.stys_srt{b:Bk}{n:Nat}(h:b.Srt n):∀(l:List (Int×Int)),(∀s∈l,s.1.toNat<b.cs.length)->(b.stys l).Srt (n+l.length):=by
 intro l
 induction l generalizing b n with
 |nil=>exact λ _=>h
 |cons s l w=>
  intro e;have:=w (h.sty s (e s S1)) λ z f=>by rw[b.sty_len];grind
  rw[length_cons,show n+(l.length+1)=n+1+l.length by omega];exact this
end Go.TM
namespace Go.Proofs
open Go.TM
variable{T:Type}{S:TM.Sys prog T}{U:Qa T}
attribute [local irreducible] Qb Zl Wt
def FD(h:BH)(b:Bk)(Y:Zq U.frz h b)(aa:b.cs.length<=1000):Qb S 85 #[h.v] (λ v U'=>Jd U'.frz v ((range b.cs.length).map λ(k:Nat)=>(k:Int))/\U.le U') U:=by
 refine Qb.ints (e:=3) (Qb.of (args:=[_]) YU Qf S1 ?_);have Z:=Y.cs.1
 repeat refine⟨rfl,?_⟩
 conv=>whnf
 intro B V F L;have L:Zi V B #[.slice h.ra h.rl h.rc,.slice h.ca h.cl h.cc]:=L;refine⟨_,L.sees3 (o:=1) rfl,Nat×Value,λ y=>[(3,y.2),(8,.int .i64 h.cl),(9,.int .i64 y.1)],λ y U'=>(∀x o,U.I x=some o->U'.I x=some o)/\U'.tok=U.tok/\Acc 3 1 y.2 (((range y.1).map λ(k:Nat)=>(k:Int)).map λ n=>.int .i64 n) U'.M U.M/\y.1<=h.cl,λ y=>h.cl-y.1,(0,.slice none 0 0),T1,⟨F.imm,F.tok,by rw[F.own];exact .nil,O1⟩,?_⟩;rintro⟨i,v⟩f W⟨X,ht,w,hi⟩;simp only at w hi;obtain⟨sa,sl,sc,rfl,ab,-⟩:=Acc.src (U:=W) w;have P:Zu ((i:Int)+1):=I1
 repeat refine⟨rfl,?_⟩
 conv=>whnf
 apply Qe<;>intro T
 .have hlt:i<h.cl:=by simpa using T
  conv=>whnf
  intro K H;refine Zk H λ Q G z=>?_;have z:Zi Q K #[.int .i64 i]:=z
  conv=>whnf
  refine Ws (v:=.slice sa sl sc) (cs:=((range i).map λ(k:Nat)=>(k:Int)).map λ n=>.int .i64 n) (new:=[.int .i64 (i:Int)]) (M₀:=U.M) Hf rfl rfl (by rw[G.own];exact w) (.inr ⟨_,rfl,z.rd⟩) rfl (by simp[Value.single]) S3 λ v' M' N _=>?_;have E:Acc 3 1 v' (((range (i+1)).map λ(k:Nat)=>(k:Int)).map λ n=>.int .i64 n) M' U.M:=by rw[range_succ,map_append,map_append];exact N
  obtain⟨ta,tl,tc,rfl,-,-⟩:=Acc.src (U:={ Q with M:=M' }) E;refine⟨P,?_⟩
  conv=>whnf
  exact⟨rfl,(i+1,.slice ta tl tc),T1,⟨λ x o h=>G.imm x o (X x o h),G.tok.trans ht,E,by grind⟩,by grind⟩
 .have hge:i=b.cs.length:=by simp at T;omega
  subst hge
  repeat refine⟨rfl,?_⟩
  conv=>whnf
  simp_all
def IE:G2 prog 84 (K_ prog 84):=.of K1
def jn(x y:Int×Int):Qb S 148 #[.agg #[.int .i64 x.1,.int .i64 x.2],.agg #[.int .i64 y.1,.int .i64 y.2]] (λ v U'=>v=.int .i64 (JQ x y)/\U'=U) U:=by
 obtain⟨a,b⟩:=x;obtain⟨c,d⟩:=y;refine Qb.pure' (Qb.of (args:=[_,_]) Ec Qf S1 ?_)
 repeat refine⟨rfl,?_⟩
 conv=>whnf
 intro M K H f;have f:Zi K M #[.int .i64 a,.int .i64 b]:=f
 conv=>whnf
 intro N L E h;have h:Zi L N #[.int .i64 c,.int .i64 d]:=h;have f:=f.le E;have w:=(H.trans E).lg;refine⟨_,⟨rfl,f.rd⟩,?_⟩;refine⟨_,⟨rfl,h.rd⟩,?_⟩
 conv=>whnf
 refine pk IE (vs:=[.int .i64 a,.int .i64 b]) (ws:=[.int .i64 c,.int .i64 d]) rfl rfl K1 K1 ?_
 have I:ZJ [.int .i64 a,.int .i64 b] [.int .i64 c,.int .i64 d]=decide ((a,b)=(c,d)):=by
  simp[ZJ,HY,Prod.mk.injEq,Bool.decide_and];rfl
 rw[I];by_cases e:(a,b)=(c,d)
 .have z:JQ (a,b) (c,d)=0:=by unfold JQ;rw[if_pos e]
  rw[decide_eq_true e,z]
  repeat refine⟨rfl,?_⟩
  conv=>whnf
  exact w
 rw[decide_eq_false e];have P:¬(a=c/\b=d):=λ⟨F,G⟩=>e (by rw[F,G]);refine⟨_,f.sees3 (o:=0) rfl,_,h.sees3 (o:=0) rfl,?_⟩
 repeat refine⟨rfl,?_⟩
 conv=>whnf
 apply Zr<;>intro B
 .have F:¬a<c:=by simpa using B
  refine⟨_,f.sees3 (o:=0) rfl,_,h.sees3 (o:=0) rfl,?_⟩
  repeat refine⟨rfl,?_⟩
  conv=>whnf
  apply Zr<;>intro B
  .have G:a=c:=by simpa using B
   refine⟨_,f.sees3 (o:=1) rfl,_,h.sees3 (o:=1) rfl,?_⟩
   repeat refine⟨rfl,?_⟩
   conv=>whnf
   apply Qe<;>intro B
   .have h3:b<d:=by simpa using B
    have z:JQ (a,b) (c,d) = -1:=by unfold JQ;rw[if_neg e,if_pos (.inr ⟨G,h3⟩)]
    rw[z]
    repeat refine⟨rfl,?_⟩
    conv=>whnf
    exact w
   .have h3:¬b<d:=by simpa using B
    have z:JQ (a,b) (c,d)=1:=by unfold JQ;rw[if_neg e,if_neg (by simp only;omega)]
    rw[z]
    repeat refine⟨rfl,?_⟩
    conv=>whnf
    exact w
  .have G:a≠c:=by simpa using B
   have z:JQ (a,b) (c,d)=1:=by unfold JQ;rw[if_neg e,if_neg (by simp only;omega)]
   rw[z]
   repeat refine⟨rfl,?_⟩
   conv=>whnf
   exact w
 .have F:a<c:=by simpa using B
  have z:JQ (a,b) (c,d) = -1:=by unfold JQ;rw[if_neg e,if_pos (.inl F)]
  rw[z]
  repeat refine⟨rfl,?_⟩
  conv=>whnf
  exact w
end Go.Proofs
namespace Go.TM
variable{T:Type}{P:Program}{S:Sys P T}{U U':Qa T}
def Qa.sees.mem{a:Addr}{v:Value}(h:U.sees a v)(e:∀x o,U.I x=some o->U'.I x=some o)(b:∀r∈U.M,r∈U'.M):U'.sees a v:=
 ⟨h.1,h.2.imp (λ⟨c,t,fr,x,y⟩=>⟨c,t,fr,x.imp (e _ _) (b _),y⟩) λ⟨t,n,x⟩=>⟨t,n,b _ x⟩⟩
def Jn.mem{a:Addr}{vs:List Value}(h:Jn U a vs)(b:∀x o,U.I x=some o->U'.I x=some o)(e:∀r∈U.M,r∈U'.M):Jn U' a vs:=λ i v f=>(h i v f).mem b e
def Q5.mem{a:Option Addr}{len n:Nat}{α:Type}{l:List α}{R:α->List Value->Prop}(h:Q5 U a len n l R)(b:∀x o,U.I x=some o->U'.I x=some o)(f:∀r∈U.M,r∈U'.M):Q5 U' a len n l R:=
 ⟨h.1,λ i x w=>let ⟨ad,vs,e,s,r,hl,hr⟩:=h.2 i x w;⟨ad,vs,e,s,r,hl,hr.mem b f⟩⟩
def QS.mem{a:Option Addr}{cs:List Value}(h:QS U a cs)(f:∀x o,U.I x=some o->U'.I x=some o)(w:∀r∈U.M,r∈U'.M):QS U' a cs:=h.imp id λ⟨b,e,r⟩=>⟨b,e,r.mem f w⟩
def QW.mem{h:BH}{b:Bk}{M₀:List Qx}(k:QW U h b M₀):∀r∈M₀,r∈U.M:=by
 obtain⟨f,A,-,-,-,e⟩:=k.ex;grind
def QW.imI{h:BH}{b:Bk}{M₀:List Qx}(k:QW U h b M₀)(f:∀x o,U.I x=some o->U'.I x=some o)(B:U'.tok=U.tok)(w:U'.M.Perm U.M):QW U' h b M₀:=
 have e:U.frz.lg U'.frz:=⟨f,⟨[],rfl⟩,B⟩
 let ⟨ps,A,h1,h2,h3,h4⟩:=k.ex
 ⟨⟨ps,A,h1,λ p z=>(h2 p z).lg e,h3,w.trans h4⟩,k.rs.lg e λ _ _ h=>h,k.rl,k.rn,k.rc⟩
def QW.pick{h:BH}{b:Bk}{o:Qx}{M₀:List Qx}(k:QW U h b (o::M₀)):∃X Y,U.M=X++o::Y/\(∀(U':Qa T)z,(∀x q,U.I x=some q->U'.I x=some q)->U'.tok=U.tok->U'.M=X++z::Y->QW U' h b (z::M₀))/\(X++Y).Sublist U.M/\QW { U with M:=X++Y } h b M₀:=by
 obtain⟨X,Y,e⟩:=append_of_mem (k.mem o S1);obtain⟨w,A,B,E,G,L⟩:=k.ex
 have f:(X++Y).Perm (A++(w.flatMap (·.2.F)++M₀)):=by
  have H:(o::(X++Y)).Perm U.M:=by rw[e];exact perm_middle.symm
  have K:(A++(w.flatMap (·.2.F)++o::M₀)).Perm (o::(A++(w.flatMap (·.2.F)++M₀))):=by
   rw[<- append_assoc,<- append_assoc];exact perm_middle
  exact(H.trans (L.trans K)).cons_inv
 refine⟨X,Y,e,λ U' z N Q P=>?_,?_,⟨⟨w,A,B,λ p f=>(E p f).lg ⟨λ _ _ h=>h,⟨[],rfl⟩,rfl⟩,G,f⟩,k.rs.lg ⟨λ _ _ h=>h,⟨[],rfl⟩,rfl⟩ λ _ _ h=>h,k.rl,k.rn,k.rc⟩⟩
 .have hl:U.frz.lg U'.frz:=⟨N,⟨[],rfl⟩,Q⟩;refine⟨⟨w,A,B,λ p f=>(E p f).lg hl,G,?_⟩,k.rs.lg hl λ _ _ h=>h,k.rl,k.rn,k.rc⟩;rw[P];refine perm_middle.trans ((f.cons z).trans ?_);rw[<- append_assoc,<- append_assoc];exact perm_middle.symm
 simp_all
def oA(a b:Int×Int)(l r:List (Int×Int)):Q_ (a::l) (b::r)=if JQ a b≠0 then JQ a b else Q_ l r:=rfl
def C0(a:Int×Int)(l:List (Int×Int)):Q_ (a::l) []=1:=rfl
def jW(b:Int×Int)(r:List (Int×Int)):Q_ [] (b::r) = -1:=rfl
def Bt:Q_ [] []=0:=rfl
def Bk.cas_mem{b:Bk}{k:Nat}(h:k<b.cs.length):b.cas k∈b.cs:=by
 simp only[Bk.cas,getD_eq_getElem?_getD,getElem?_eq_getElem h,Option.getD_some];exact getElem_mem h
end Go.TM
namespace Go.Proofs
open Go.TM
variable{T:Type}{S:TM.Sys prog T}{U:Qa T}
attribute [local irreducible] Qb Zl Wt
def zU(l r:List (Int×Int))(a a':Option Addr)(c T:Nat)(hl:Q5 U a l.length 2 l (λ x vs=>vs=encII x))(hr:Q5 U a' r.length 2 r (λ x vs=>vs=encII x))(h1:l.length<=1000)(h2:r.length<=1000) :
  Qb S 147 #[.slice a l.length c,.slice a' r.length T,.func (.func 148) #[] #[]] (λ v U'=>v=.int .i64 (Q_ l r)/\U'=U) U:=by
 refine Qb.pure' (Qb.of (args:=[_,_,_]) FV Qf S1 ?_)
 refine⟨Nat,λ i=>[(0,.slice a l.length c),(1,.slice a' r.length T),(2,.func (.func 148) #[] #[]),(11,.slice a l.length c),(12,.int .i64 l.length),(13,.int .i64 i)],
  λ i U'=>U.lg U'/\i<=l.length/\i<=r.length/\Q_ l r=Q_ (l.drop i) (r.drop i),λ i=>l.length-i,0,T1,⟨(Qa.le.refl _).lg,O1,O1,rfl⟩,?_⟩
 rintro i f U1⟨G,hi,Z,b⟩;have P:Zu ((i:Int)+1):=I1
 repeat refine⟨rfl,?_⟩
 conv=>whnf
 apply Qe<;>intro e
 .have hlt:i<l.length:=by simpa using e
  obtain⟨X,x,vs,hx,rfl,aa,rfl,-,Q⟩:=(hl.lg G λ _ _ h=>h).at hlt;rw[WT hx]at b;refine⟨X,i,⟨rfl,rfl,hlt⟩,_,⟨rfl,Q⟩,?_⟩
  conv=>whnf
  intro Y M;refine⟨_,.refl _,rfl,Zt (vs:=encII x) M rfl (by simp[encII,Value.single]) λ U2 K B=>?_⟩;have w:=G.trans K.lg
  repeat refine⟨rfl,?_⟩
  conv=>whnf
  apply Qe<;>intro e
  .have hge:r.length<=i:=by simpa using e
   rw[drop_eq_nil_of_le hge,C0]at b;rw[b]
   repeat refine⟨rfl,?_⟩
   simp_all
  have z:i<r.length:=by simp at e;omega
  obtain⟨I,y,vs,hy,rfl,V,rfl,-,H⟩:=(hr.lg w λ _ _ h=>h).at z;rw[WT hy,oA]at b;refine⟨I,i,⟨rfl,rfl,z⟩,_,⟨rfl,H⟩,?_⟩
  conv=>whnf
  intro b9 N;refine⟨_,.refl _,rfl,Zt (vs:=encII y) N rfl (by simp[encII,Value.single]) λ W F L=>?_⟩;have E:=w.trans F.lg;have B:Zi W Y (encII x).toArray:=B.le F;refine⟨_,⟨rfl,B.rd⟩,?_⟩;refine⟨_,⟨rfl,L.rd⟩,?_⟩;refine⟨Ec.any,(jn x y).go λ _=>?_⟩
  repeat refine⟨rfl,?_⟩
  conv=>whnf
  apply Qe<;>intro e
  .have hne:JQ x y≠0:=by simpa using e
   rw[if_pos hne]at b;rw[b]
   repeat refine⟨rfl,?_⟩
   simp_all
  .have hne:¬JQ x y≠0:=by simpa using e
   rw[if_neg hne]at b
   repeat refine⟨rfl,?_⟩
   refine⟨P,?_⟩
   conv=>whnf
   exact⟨rfl,i+1,T1,⟨E,O1,O1,b⟩,by grind⟩
 .have hge:i=l.length:=by simp at e;omega
  subst hge;rw[drop_length]at b
  repeat refine⟨rfl,?_⟩
  conv=>whnf
  apply Qe<;>intro e
  .have hlt:l.length<r.length:=by simpa using e
   have:r.drop l.length=r[l.length]::r.drop (l.length+1):=drop_eq_getElem_cons hlt;rw[this,jW]at b;rw[b]
   repeat refine⟨rfl,?_⟩
   simp_all
  .have hge:r.length<=l.length:=by simp at e;omega
   rw[drop_eq_nil_of_le hge,Bt]at b;rw[b]
   repeat refine⟨rfl,?_⟩
   simp_all
def BO(h:BH)(b:Bk)(hb:Zq U.frz h b)(hs:b.Sml)(l:List (Int×Int))(a:Option Addr)(c:Nat)(hl:Q5 U a l.length 2 l (λ x vs=>vs=encII x))(a2:l.length<=6)(al:b.Srt 5)(ah:∀s∈l,0<=s.1/\s.1.toNat<b.cs.length) :
  Qb S 144 #[h.v,.slice a l.length c] (λ v U'=>(∃w:BH,v=w.v/\QW U' w (b.stys l) U.M)/\(∀x o,U.I x=some o->U'.I x=some o)/\U'.tok=U.tok) U:=by
 have ap:Qb S 144 #[h.v,.slice a l.length c] (λ v U'=>(∃(w:BH)(o:Qx),v=w.v/\QW U' w (b.stys l) (o::U.M))/\(∀x o,U.I x=some o->U'.I x=some o)/\U'.tok=U.tok) U:=by
  refine Qb.of (args:=[_,_]) Fv Qf S1 ?_
  repeat refine⟨rfl,?_⟩
  conv=>whnf
  intro B U1 G hB;have hB:Zi U1 B #[.slice h.ra h.rl h.rc,.slice h.ca h.cl h.cc]:=hB
  conv=>whnf
  intro W a4;refine⟨_,.refl _,?_⟩;have ab:=Z4 (U:=U1) W (.cells #[.slice none 0 0,.slice none 0 0] 86);refine⟨_,⟨rfl,(hB.lg ab).rd⟩,?_⟩;refine⟨Fa.any,(xy (S:=S) (U:=U1.put W (.cells #[.slice none 0 0,.slice none 0 0] 86)) h b (hb.lg (G.lg.frz2.trans ab.frz2)) hs).mono ?_⟩;rintro _ U2⟨⟨w,rfl,F⟩,L,T⟩-;have aq:∀x o,U.I x=some o->U2.I x=some o:=λ x o z=>L x o (G.imm x o z);have a0:U2.tok=U.tok:=T.trans G.tok
  have F:QW U2 w b (.obj W (.cells [.slice none 0 0,.slice none 0 0].toArray 86 (0,0))::U.M):=by
   have e:(U1.put W (.cells #[.slice none 0 0,.slice none 0 0] 86)).M=.obj W (.cells [.slice none 0 0,.slice none 0 0].toArray 86 (0,0))::U.M:=by show _::U1.M=_;rw[G.own]
   rw[<- e];exact F
  clear ab L T
  conv=>whnf
  intro b5 av;refine⟨_,.refl _,rfl,Zt (vs:=[.slice w.ra w.rl w.rc,.slice w.ca w.cl w.cc]) av rfl (by simp[Value.single]) λ U3 Z K=>?_⟩;have K:Zi U3 b5 #[.slice w.ra w.rl w.rc,.slice w.ca w.cl w.cc]:=K
  refine⟨Nat,λ i=>[(1,.slice a l.length c),(4,.pointer (some ⟨W,0,none⟩)),(5,.pointer (some ⟨b5,0,none⟩)),(10,.slice a l.length c),(11,.int .i64 l.length),(12,.int .i64 i)],
   λ i U'=>U3.frz.lg U'/\i<=l.length/\QW U' w (b.stys (l.take i)) (.obj W (.cells [.slice none 0 0,.slice none 0 0].toArray 86 (0,0))::U.M),λ i=>l.length-i,0,T1,⟨⟨λ _ _ h=>h,⟨_,(append_nil _).symm⟩,rfl⟩,O1,F.le Z⟩,?_⟩
  rintro i f U4⟨E,hi,F⟩;have ai:Zu ((i:Int)+1):=I1
  have ac:∀x o,U.I x=some o->U4.I x=some o:=λ x o z=>E.imm x o (Z.imm x o (aq x o z))
  repeat refine⟨rfl,?_⟩
  conv=>whnf
  apply Qe<;>intro hc
  .have hlt:i<l.length:=by simpa using hc
   obtain⟨ad,x,vs,z,rfl,a6,rfl,-,az⟩:=(hl.mem ac λ r hr=>F.mem r (mem_cons_of_mem _ hr)).at hlt;obtain⟨a7,ao⟩:=ah x (mem_of_getElem? z);refine⟨ad,i,⟨rfl,rfl,hlt⟩,_,⟨rfl,az⟩,?_⟩
   conv=>whnf
   intro b7 aw;refine⟨_,.refl _,rfl,Zt (vs:=encII x) aw rfl (by simp[encII,Value.single]) λ U5 H au=>?_⟩;have ag:Zi U5 b5 #[.slice w.ra w.rl w.rc,.slice w.ca w.cl w.cc]:=K.imI λ x o z=>H.imm x o (E.imm x o z);refine⟨_,⟨rfl,ag.rd⟩,?_⟩;refine⟨_,⟨rfl,au.rd⟩,?_⟩;have ak:=Bk.stys_srt al (l.take i) λ s hs=>(ah s (mem_of_mem_take hs)).2;have Q:=Bk.cas_mem (b:=b.stys (l.take i)) (k:=x.1.toNat) (by rw[Bk.stys_len];exact ao);have ax:=ak.l _ Q;have a1:((x.1.toNat:Nat):Int)=x.1:=O1
   have am:=jY (S:=S) (U:=U5) w (b.stys (l.take i)) _ (F.le H) x.1.toNat x.2 (by rw[Bk.stys_len];exact ao) (ak.s _ Q) (by rw[length_take]at ax;omega);rw[a1]at am;refine⟨Ig.any,am.mono ?_⟩;rintro v U6⟨ay,ae,an⟩-;have aa:U3.frz.lg U6:=⟨λ x o z=>ae x o (H.imm x o (E.imm x o z)),⟨_,(append_nil _).symm⟩,an.trans (H.tok.trans E.tok)⟩;refine⟨ai,?_⟩
   conv=>whnf
   exact⟨rfl,i+1,T1,⟨aa,O1,by rw[Ji z,Bk.stys_snoc];exact ay⟩,L1⟩
  .have hge:i=l.length:=by simp at hc;omega
   subst hge;rw[take_length]at F;have af:Zi U4 b5 #[.slice w.ra w.rl w.rc,.slice w.ca w.cl w.cc]:=K.imI E.imm;obtain⟨X,Y,hM,aj,-,-⟩:=F.pick;refine⟨_,⟨rfl,af.rd⟩,?_⟩;refine⟨rfl,Wh (vs:=[.slice w.ra w.rl w.rc,.slice w.ca w.cl w.cc]) X hM rfl (by simp[Value.single]) λ U5 N V P=>?_⟩;refine⟨_,⟨rfl,Za X P⟩,⟨w,_,rfl,aj U5 _ (λ x q z=>by rw[N];exact z) V P⟩,λ x o z=>by rw[N];exact ac x o z,?_⟩;rw[V];exact E.tok.trans (Z.tok.trans a0)
 refine ap.post λ v U'⟨⟨w,o,hv,F⟩,hI,ht⟩=>?_;obtain⟨X,Y,-,-,a3,a5⟩:=F.pick;grind[Z1]
end Go.Proofs
namespace Go.TM
variable{T:Type}{P:Program}{S:Sys P T}{U U':Qa T}
def Bk.canI(b:Bk)(i m:Nat):List (Int×Int):=((range m).filter λ k=>k != i&&!(b.cas i).af.contains (k:Int)).map λ(k:Nat)=>((i:Int),(k:Int))
def Bk.cansTo(b:Bk)(i:Nat):List (Int×Int):=(range i).flatMap λ i=>b.canI i b.cs.length
def Bk.cansTo_all(b:Bk):b.cansTo b.cs.length=b.cans:=rfl
def Bk.cansTo_succ(b:Bk)(i:Nat):b.cansTo (i+1)=b.cansTo i++b.canI i b.cs.length:=by simp[Bk.cansTo,range_succ]
def Bk.canI_succ(b:Bk)(i m:Nat):b.canI i (m+1)=b.canI i m++(if(m != i&&!(b.cas i).af.contains (m:Int))=true then[((i:Int),(m:Int))]else[]):=by
 unfold Bk.canI;rw[range_succ,filter_append,map_append];grind
def Bk.canI_len(b:Bk)(i m:Nat):(b.canI i m).length<=m:=by
 grind[Bk.canI,length_map,Nat.le_trans,length_filter_le]
def Bk.cansTo_len(b:Bk):∀i,(b.cansTo i).length<=i*b.cs.length
 |0=>by simp[Bk.cansTo]
 |i+1=>by
  rw[Bk.cansTo_succ,length_append,Nat.succ_mul];have:=b.cansTo_len i;have:=b.canI_len i b.cs.length;omega
def Bk.cas_at{b:Bk}{i:Nat}{c:Cs}(h:b.cs[i]?=some c):b.cas i=c:=by simp[Bk.cas,getD_eq_getElem?_getD,h]
end Go.TM
namespace Go.Proofs
open Go.TM
variable{T:Type}{S:TM.Sys prog T}{U:Qa T}
attribute [local irreducible] Qb Zl Wt
def kQ(h:BH)(b:Bk)(hb:Zq U.frz h b)(am:b.cs.length<=5):Qb S 139 #[h.v] (λ v U'=>(∃a c,v=.slice a b.cans.length c/\Q5 U'.frz a b.cans.length 2 b.cans (λ x vs=>vs=encII x)/\b.cans.length<=c/\∀ad,a=some ad->ad.spot=none)/\U.le U') U:=by
 have a2:=hb.cs.1
 have ae:Qb S 139 #[h.v] (λ v U'=>Acc 84 2 v (b.cans.flatMap encII) U'.M U.M/\(∀x o,U.I x=some o->U'.I x=some o)/\U'.tok=U.tok) U:=by
  refine Qb.of (args:=[_]) L5 Qf S1 ?_
  repeat refine⟨rfl,?_⟩
  conv=>whnf
  intro B U1 K hB;have hB:Zi U1 B #[.slice h.ra h.rl h.rc,.slice h.ca h.cl h.cc]:=hB;refine⟨_,hB.sees3 (o:=1) rfl,Nat×Value,λ y=>[(1,.pointer (some ⟨B,0,none⟩)),(3,y.2),(9,.slice h.ca h.cl h.cc),(10,.int .i64 h.cl),(11,.int .i64 y.1)],λ y U'=>U1.frz.lg U'/\Acc 84 2 y.2 ((b.cansTo y.1).flatMap encII) U'.M U.M/\y.1<=h.cl,λ y=>h.cl-y.1,(0,.slice none 0 0),T1,⟨⟨λ _ _ h=>h,⟨_,(append_nil _).symm⟩,rfl⟩,by rw[K.own];exact .nil,O1⟩,?_⟩;rintro⟨i,v⟩f U2⟨L,w,hi⟩;simp only at w hi;obtain⟨sa,sl,sc,rfl,a6,-⟩:=Acc.src (U:=U2) w;have ap:Zu ((i:Int)+1):=I1
  have Z:U.frz.lg U2.frz:=K.lg.frz2.trans L.frz2
  repeat refine⟨rfl,?_⟩
  conv=>whnf
  apply Qe<;>intro P
  .have hlt:i<h.cl:=by simpa using P
   obtain⟨ad,c,ga,gl,gc,aa,al,ac,V,an,ay,aq,-,-,ha,aj,ax⟩:=(hb.lg Z).case hlt;have W:=Bk.cas_at V;refine⟨ad,i,⟨an,rfl,hlt⟩,_,⟨rfl,aq.lg Qp⟩,?_⟩
   conv=>whnf
   intro b5 ao;refine⟨_,.refl _,rfl,Zt (vs:=[.string c.nm,.int .i64 c.ag,.slice ga gl gc,.slice aa al ac]) ao rfl (by simp[Value.single]) λ U3 Q ak=>?_⟩;have F:=L.trans Q.lg;refine⟨_,(hB.imI F.imm).sees3 (o:=1) rfl,Nat×Value,λ y=>[(1,.pointer (some ⟨B,0,none⟩)),(3,y.2),(4,.int .i64 i),(5,.pointer (some ⟨b5,0,none⟩)),(9,.slice h.ca h.cl h.cc),(10,.int .i64 h.cl),(11,.int .i64 i),(19,.int .i64 h.cl),(20,.int .i64 y.1)],λ y U'=>U3.frz.lg U'/\Acc 84 2 y.2 ((b.cansTo i++b.canI i y.1).flatMap encII) U'.M U.M/\y.1<=h.cl,λ y=>h.cl-y.1,(0,.slice sa sl sc),T1,⟨⟨λ _ _ h=>h,⟨_,(append_nil _).symm⟩,rfl⟩,by rw[Q.own];simpa[Bk.canI]using w,O1⟩,?_⟩;rintro⟨k,v⟩f U4⟨z,w,hk⟩;simp only at w hk;obtain⟨ua,ul,uc,rfl,a8,-⟩:=Acc.src (U:=U4) w;have H:Zu ((k:Int)+1):=I1
   have E:=b.canI_succ i k;rw[W]at E;have a3:=b.cansTo_len i;have a4:=b.canI_len i k;have a5:i*b.cs.length<=5*5:=Nat.mul_le_mul O1 am;have ab:U1.frz.lg U4:=⟨λ x o V=>z.imm x o (F.imm x o V),⟨_,(append_nil _).symm⟩,z.tok.trans F.tok⟩
   repeat refine⟨rfl,?_⟩
   conv=>whnf
   apply Qe<;>intro P
   .have hkt:k<h.cl:=by simpa using P
    repeat refine⟨rfl,?_⟩
    conv=>whnf
    apply Zr<;>intro P
    .have hne:(k != i)=true:=by simp at P ⊢;omega
     refine⟨_,(ak.imI z.imm).sees3 (o:=3) rfl,OH.any,(UT aa al ac c.af ((ha.lg (Q.lg.frz2.trans z.frz2)).lg Qp) aj (k:Int)).go λ _=>?_⟩;rw[hne,Bool.true_and]at E;cases X:c.af.contains (k:Int)with
     |true=>
      rw[X]at E
      repeat refine⟨rfl,?_⟩
      refine⟨H,?_⟩
      conv=>whnf
      exact⟨rfl,(k+1,.slice ua ul uc),T1,⟨z,by rw[E];simpa using w,by show k+1<=h.cl;omega⟩,L1⟩
     |false=>
      rw[X]at E
      conv=>whnf
      intro ah Y;refine Zk Y λ U5 T G=>?_;have G:Zi U5 ah (encII ((i:Int),(k:Int))).toArray:=G
      conv=>whnf
      refine Ws (v:=.slice ua ul uc) (cs:=(b.cansTo i++b.canI i k).flatMap encII) (new:=encII ((i:Int),(k:Int))) (M₀:=U.M) Y5 rfl rfl (by rw[T.own];exact w) (.inr ⟨_,rfl,G.rd⟩) rfl (by simp[encII,Value.single]) (by
       rw[Q0 (f:=encII) (n:=2) (λ _=>rfl)];simp[encII];omega) λ v' M' ai _=>?_
      have N:Acc 84 2 v' ((b.cansTo i++b.canI i (k+1)).flatMap encII) M' U.M:=by
       rw[E];simpa using ai
      obtain⟨ta,tl,tc,rfl,-,-⟩:=Acc.src (U:={ U5 with M:=M' }) N;refine⟨H,?_⟩
      conv=>whnf
      exact⟨rfl,(k+1,.slice ta tl tc),T1,⟨⟨λ x o V=>T.imm x o (z.imm x o V),⟨_,(append_nil _).symm⟩,T.tok.trans z.tok⟩,N,by show k+1<=h.cl;omega⟩,L1⟩
    .have hne:(k != i)=false:=by simp at P ⊢;omega
     rw[hne,Bool.false_and]at E
     repeat refine⟨rfl,?_⟩
     refine⟨H,?_⟩
     conv=>whnf
     exact⟨rfl,(k+1,.slice ua ul uc),T1,⟨z,by rw[E];simpa using w,by show k+1<=h.cl;omega⟩,L1⟩
   .have hge:k=b.cs.length:=by simp at P;omega
    subst hge;rw[<- Bk.cansTo_succ]at w;refine⟨ap,?_⟩
    conv=>whnf
    exact⟨rfl,(i+1,.slice ua ul uc),T1,⟨ab,w,by show i+1<=h.cl;omega⟩,L1⟩
  .have hge:i=b.cs.length:=by simp at P;omega
   subst hge;rw[Bk.cansTo_all]at w
   repeat refine⟨rfl,?_⟩
   conv=>whnf
   exact⟨w,λ x o V=>L.imm x o (K.imm x o V),L.tok.trans K.tok⟩
 refine ae.sep λ v U' hs⟨ha,hI,ht⟩=>?_
 have av:∀a l c,v=.slice a l c->l<=c:=λ a l c e=>by
  rcases ha with⟨e1,_,_⟩|⟨b',c',a0,au,e1,_,g2,_⟩
  .rw[e1]at e;cases e;exact Nat.le_refl _
  .rw[e1]at e;cases e;exact g2
 obtain⟨a1,k1,k2,a,len,cap,rfl,hl,az,a7,_⟩:=ha.freeze hs hI ht;have aw:b.cans.length=len:=by have e:=(Q0 (f:=encII) (n:=2) (λ _=>rfl) b.cans).symm.trans hl;omega
 grind[HV,encII,decide]
end Go.Proofs
namespace Go.TM
variable{T:Type}{P:Program}{S:Sys P T}{U U':Qa T}
def J0{b:Nat}{e:TypeId}{vs:List Value}(h:Qx.obj b (.cells vs.toArray e (0,0))∈U.M):Jn U ⟨b,0,none⟩ vs:=by
 obtain⟨X,Y,f⟩:=append_of_mem h;exact Za X f
def Sd{M L₁ L₂:List Qx}{r:Qx}(h:M.Perm (L₁++r::L₂)):∃X Y,M=X++r::Y/\(X++Y).Perm (L₁++L₂):=by
 obtain⟨X,Y,e⟩:=append_of_mem (h.mem_iff.2 S1:r∈M);refine⟨X,Y,e,?_⟩;have b:(r::(X++Y)).Perm M:=by rw[e];exact perm_middle.symm
 exact(b.trans (h.trans perm_middle)).cons_inv
theorem Oe{X Y L₁ L₂:List Qx}(h:(X++Y).Perm (L₁++L₂))(r:Qx):(X++r::Y).Perm (L₁++r::L₂):=perm_middle.trans ((h.cons r).trans perm_middle.symm)
def gb{b i:Nat}{e:TypeId}{c:Array Value}{v:Value}{L₁ L₂:List Qx}{Q:Qa T->Prop}(L:U.M.Perm (L₁++.obj b (.cells c e (0,0))::L₂))(N:i<c.size)(P:v.single=true)
  (h:∀f:Qa T,f.I=U.I->f.tok=U.tok->f.M=L₁++.obj b (.cells (c.setIfInBounds i v) e (0,0))::L₂->Q f):ZA ((Addr.mk b 0 none).add i) [v] 0 (λ U'=>∃f,Qw U' f/\Q f) U:=by
 obtain⟨X,Y,B,V⟩:=Sd L;refine ZA.mono (K:=λ U'=>∃f,Qw U' f/\∃w,Qw f w/\Q w) (λ U'⟨f,E,w,F,G⟩=>⟨w,E.trans F,G⟩) _ _ _ (WS X B N P λ f H S z=>?_);exact⟨{ f with M:=L₁++.obj b (.cells (c.setIfInBounds i v) e (0,0))::L₂ },W7 (by grind[Oe]),h _ H S rfl⟩
def Y8{b:Nat}{e:TypeId}{c:Array Value}{vs:List Value}{L₁ L₂:List Qx}{Q:Qa T->Prop}(N:U.M.Perm (L₁++.obj b (.cells c e (0,0))::L₂))(z:c.size=vs.length)(P:∀v∈vs,v.single=true)
  (h:∀f:Qa T,f.I=U.I->f.tok=U.tok->f.M=L₁++.obj b (.cells vs.toArray e (0,0))::L₂->Q f):ZA ⟨b,0,none⟩ vs 0 (λ U'=>∃f,Qw U' f/\Q f) U:=by
 obtain⟨X,Y,E,V⟩:=Sd N;refine ZA.mono (K:=λ U'=>∃f,Qw U' f/\∃w,Qw f w/\Q w) (λ U'⟨f,F,w,G,H⟩=>⟨w,F.trans G,H⟩) _ _ _ (Wh X E z P λ f L S B=>?_);exact⟨{ f with M:=L₁++.obj b (.cells vs.toArray e (0,0))::L₂ },W7 (by grind[Oe]),h _ L S rfl⟩
def AV{b:Nat}{o:Obj}{M L₁ L₂:List Qx}(h:M.Perm (L₁++.obj b o::L₂)):∃M':Obj->List Qx,∀f,J4 b f o M (M' f)/\(M' f).Perm (L₁++.obj b f::L₂):=by
 obtain⟨X,Y,e,w⟩:=Sd h;exact⟨λ f=>X++.obj b f::Y,λ f=>⟨by rw[e];exact PN .here X,Oe w _⟩⟩
def xM{b:Nat}{c:Array Value}{t:TypeId}{M' M₀:List Qx}{Q:Qa T->Prop}(f:U.free b)(w:U.M.Perm (M'++M₀))(h:∀e:Qa T,(∀x o,U.I x=some o->e.I x=some o)->e.tok=U.tok->e.M=M'->Zi e b c->Q e):∃e,Qw (U.put b (.cells c t)) e/\Q e:=
 ⟨_,(We (b:=b) (M':=U.M) (Perm.refl _)).trans (Dn (M':=M') ⟨M₀,w⟩),h _ (GF (o:=.cells c t) f).imm rfl rfl Zi.new⟩
def ZW(L:List Nat):List Value:=L.map λ n=>.int .i64 (n:Nat)
def LN(L:List Nat):(ZW L).length=L.length:=by simp[ZW]
def Ih{L:List Nat}{i:Nat}(h:i<L.length):(ZW L)[i]?=some (.int .i64 (L.getD i 0:Nat)):=by
 simp[ZW,getD_eq_getElem?_getD,getElem?_eq_getElem h]
def Fo(L:List Nat)(i v:Nat):(ZW L).toArray.setIfInBounds i (.int .i64 (v:Nat))=(ZW (L.set i v)).toArray:=by
 simp[ZW,map_set]
def qg(n:Nat):replicate n (Value.int .i64 0)=ZW (replicate n 0):=by simp[ZW]
abbrev QU:Int->Value:=λ k=>.int .i64 k
def JM(m:Nat)(ky:Nat->Int)(vl:Nat->Value):List (Int×Value):=(range m).map λ p=>(ky p,vl p)
def DR(m:Nat)(ky:Nat->Int)(vl:Nat->Value):(JM m ky vl).length=m:=by simp[JM]
def EX(m:Nat)(ky:Nat->Int)(vl:Nat->Value):JM (m+1) ky vl=JM m ky vl++[(ky m,vl m)]:=by simp[JM,range_succ]
def SI{m p:Nat}{ky:Nat->Int}{vl:Nat->Value}(h:p<m):(JM m ky vl)[p]?=some (ky p,vl p):=by simp[JM,h]
def wV{m:Nat}{ky b:Nat->Int}{vl e:Nat->Value}(h:∀p,p<m->ky p=b p/\vl p=e p):JM m ky vl=JM m b e:=
 map_congr_left λ p f=>S2
def Do{κ:Type}[DecidableEq κ]{k:κ}{v:Value}:∀{l:List (κ×Value)}(i:Nat),l.Pairwise (λ a b=>a.1≠b.1)->(k,v)∈l->(QM k l i).map (·.2)=some v
 |[],_,_,h=>by cases h
 |p::l,i,z,h=>by
  obtain⟨f,w⟩:=pairwise_cons.1 z;simp only[QM];rcases mem_cons.1 h with e|h
  .subst e;simp
  .rw[if_neg λ e=>f _ h e.symm];exact Do (i+1) w h
theorem LQ{κ:Type}[DecidableEq κ]{k:κ}:∀{l:List (κ×Value)}(i:Nat),(∀p∈l,p.1≠k)->QM k l i=none
 |[],_,_=>rfl
 |p::l,i,h=>by
  simp only[QM];rw[if_neg λ e=>h p S1 e.symm];exact LQ (i+1) λ q b=>h q (by simp[b])
def Di{m p:Nat}{ky:Nat->Int}{vl:Nat->Value}(h:p<m)(B:∀q r,q<m->r<m->ky q=ky r->q=r):lk (ky p) (JM m ky vl)=some (vl p):=by
 refine Do 0 ?_ (mem_of_getElem? (SI h));unfold JM;rw[pairwise_map];refine Pairwise.imp_of_mem (R:=λ a b=>a≠b) (λ{a b}w z f e=>f (B a b (by simpa using w) (by simpa using z) e)) nodup_range
def T5{m:Nat}{k:Int}{ky:Nat->Int}{vl:Nat->Value}(h:∀q,q<m->ky q≠k):lk k (JM m ky vl)=none/\∀v,ZF k v (JM m ky vl)=JM m ky vl++[(k,v)]:=by
 grind[QM,JM,LQ,lk,YW]
end Go.TM
namespace Go.Proofs
open Go.TM
def Pr{T:Type}:WJ T prog 3 QU:=by
 have b:prog.underlying 3=some (.int .i64):=K1
 exact .simple b rfl (λ k k'=>by simp[Instr.sameNow];rfl) (λ k=>by simp[Instr.sameBits])
def VX:prog.underlying 191=some (.map 3 3):=K1
def OK:prog.underlying 124=some (.map 3 51):=K1
def wm:Xq prog 51=some (.int .i64 0):=K1
end Go.Proofs
namespace Go.TM
variable{T:Type}{U:Qa T}
def Eu{a:Option Addr}{l:List Int}(h:Z5 U a l.length l):Q5 U a l.length 1 l (λ x vs=>vs=[.int .i64 x]):=by
 refine⟨rfl,λ i x z=>?_⟩;obtain⟨f,e,w,B⟩:=h.2 i x z;refine⟨f,_,e,w,rfl,rfl,λ k v b=>?_⟩;cases k with
 |zero=>
  simp at b;subst b;obtain⟨bb,E,F⟩:=f;simp_all[Qo,Nat.add_zero]
 |succ k=>simp at b
end Go.TM
namespace Go.TM
variable{T:Type}{P:Program}{S:Sys P T}{U U':Qa T}
def Bk.setA(b:Bk)(q:Nat)(l:List Int):Bk:=⟨b.rs,b.cs.set q { b.cas q with af:=l }⟩
structure vQ(U:Qa T)(h:BH)(b:Bk)(M₀:List Qx)(q:Nat)(a0:Option Addr)(l0 c0:Nat)(kF:List Qx)(cb:Nat)(cc:Array Value)(rest:List Qx):Prop where
 ca:h.ca=some ⟨cb,0,none⟩
 lt:q<h.cl
 sz:q*4+3<cc.size
 at3:cc.toList[q*4+3]?=some (.slice a0 l0 c0)
 acc:Jw 3 1 (.slice a0 l0 c0) ((b.cas q).af.map λ n=>.int .i64 n) kF
 len:(b.cas q).af.length<=1000
 pm:U.M.Perm (kF++(.obj cb (.cells cc.toList.toArray 49 (0,0))::(rest++M₀)))
 back:∀(U':Qa T)(v':Value)(F':List Qx)(l':List Int)(M0':List Qx),U.frz.lg U'.frz->Jw 3 1 v' (l'.map λ n=>.int .i64 n) F'->l'.length<=1000->U'.M.Perm (F'++(.obj cb (.cells (cc.setIfInBounds (q*4+3) v') 49 (0,0))::(rest++M0')))->QW U' h (b.setA q l') M0'
def QW.openC{h:BH}{b:Bk}{M₀:List Qx}(ho:QW U h b M₀){q:Nat}(hq:q<b.cs.length):∃L l0 c0 K cb cc rest,vQ U h b M₀ q L l0 c0 K cb cc rest:=by
 obtain⟨ps,A,ab,G,P,hM⟩:=ho.ex;have ae:q<ps.length:=by rw[<- ab,length_map]at hq;exact hq
 obtain⟨p,hp⟩:∃p,ps[q]?=some p:=⟨_,getElem?_eq_getElem ae⟩;obtain⟨X,Y,rfl,hX,aj⟩:=Lz hp;obtain⟨c,ag,ai,ah,kv,K⟩:=p
 have T:b.cas q=c:=by
  have:=congrArg (λ l=>l[q]?) ab;simp only[getElem?_map,hp]at this;simp[Bk.cas,getD_eq_getElem?_getD,<- this]
 have f:=G _ (mem_of_getElem? hp);obtain⟨L,l0,c0,e0,ak⟩:=f.af.src;obtain rfl:kv=.slice L l0 c0:=e0;have hF:Jw 3 1 (.slice L l0 c0) (c.af.map λ n=>.int .i64 n) K:=f.af;obtain⟨cb,cc,N,M,B,W,Z,z,rfl,V⟩:=P.blk (by simp[ZB]);have ad:h.cl=N:=by have:=Value.slice.inj B;exact this.2.1
 have Q:h.ca=some ⟨cb,0,none⟩:=by have:=Value.slice.inj B;exact this.1
 have S:h.cc=M:=by have:=Value.slice.inj B;exact this.2.2
 have E:=W;rw[Q0 Z0]at E;have aa:q<h.cl:=O1
 have ac:q*4+3<cc.size:=by rw[z];omega
 refine⟨L,l0,c0,K,cb,cc,X.flatMap (·.2.F)++Y.flatMap (·.2.F),⟨Q,aa,ac,?_,S2,by rw[T];exact f.al,?_,?_⟩⟩
 .rw[Array.getElem?_toList];exact V _ _ (P9 Z0 hp (by omega:3<4))
 .refine hM.trans ?_;rw[flatMap_append,flatMap_cons];show Perm (.obj cb (.cells cc 49 (0,0))::(X.flatMap (·.2.F)++(K++Y.flatMap (·.2.F))++M₀)) _;refine Perm.trans (Perm.cons _ ?_) perm_middle.symm;rw[<- append_assoc K];grind[Perm.append_right,append_assoc,perm_append_comm]
 .intro U' v' F' l' M0' hz hF' hl' hM';refine⟨⟨X++({ c with af:=l' },⟨ag,ai,ah,v',F'⟩)::Y,[.obj cb (.cells (cc.setIfInBounds (q*4+3) v') 49 (0,0))],?_,?_,?_,?_⟩,ho.rs.lg hz λ _ _ h=>h,ho.rl,ho.rn,ho.rc⟩
  .show _=(b.cs.set q { b.cas q with af:=l' });grind[map_set]
  .intro r I;rw[mem_append,mem_cons]at I;rcases I with I|rfl|I
   .exact(G r (by simp[I])).lg hz
   .have:=f.lg hz;exact⟨this.gs,this.gl,hF',this.nm,hl'⟩
   .exact(G r (by simp[I])).lg hz
  .rw[Q,ad,S];refine .ofBlk ?_ Z (by simp[z]) λ i x H=>?_
   .grind[Q0,Z0]
   .have hlen1:(X.flatMap ZB).length=q*4:=by rw[Q0 Z0,hX]
    rw[Array.getElem?_setIfInBounds];rw[flatMap_append,flatMap_cons]at H;have w:=V i;rw[flatMap_append,flatMap_cons]at w;by_cases e:q*4+3=i
    .subst e;rw[if_pos rfl,if_pos ac];rw[getElem?_append_right O1,hlen1,Nat.add_sub_cancel_left,getElem?_append_left (by rw[Z0];omega)]at H;exact H
    .rw[if_neg e];refine w x ?_;by_cases h1:i<q*4
     .grind
     .rw[getElem?_append_right O1,hlen1]at H ⊢;by_cases h2:i-q*4<4
      .rw[getElem?_append_left (by rw[Z0];exact h2)]at H ⊢;have:i-q*4=0\/i-q*4=1\/i-q*4=2:=O1
       rcases this with e|e|e <;> rw[e]at H ⊢ <;> exact H
      grind[getElem?_append_right,Z0]
  .refine hM'.trans ?_;rw[flatMap_append,flatMap_cons];show Perm _ (.obj cb _::(X.flatMap (·.2.F)++(F'++Y.flatMap (·.2.F))++M0'));refine Perm.trans perm_middle (Perm.cons _ ?_);rw[<- append_assoc F'];grind[Perm.append_right,append_assoc,perm_append_comm]
def Bk.woL(b:Bk)(K:List Nat)(g:Nat->List Int):List Cs:=(range K.length).map λ p=>{ b.cas (K.getD p 0)with af:=g p }
theorem Bk.woL_len(b:Bk)(K:List Nat)(g:Nat->List Int):(b.woL K g).length=K.length:=by simp[Bk.woL]
def Bk.woL_at{b:Bk}{K:List Nat}{g:Nat->List Int}{q:Nat}(h:q<K.length):(b.woL K g)[q]?=some { b.cas (K.getD q 0)with af:=g q }:=by simp[Bk.woL,h]
def Bk.woL_set{b:Bk}{K:List Nat}{g:Nat->List Int}{q:Nat}(h:q<K.length)(l:List Int):(Bk.mk b.rs (b.woL K g)).setA q l=Bk.mk b.rs (b.woL K λ p=>if p=q then l else g p):=by
 have w:(Bk.mk b.rs (b.woL K g)).cas q={ b.cas (K.getD q 0)with af:=g q }:=Bk.cas_at (Bk.woL_at h);unfold Bk.setA;rw[w];congr 1;apply ext_getElem?;intro i;rw[getElem?_set];by_cases e:q=i
 .subst e;rw[if_pos rfl,if_pos (by grind[Bk.woL_len]),Bk.woL_at h,if_pos rfl]
 .rw[if_neg e];by_cases f:i<K.length
  .rw[Bk.woL_at f,Bk.woL_at f,if_neg (Ne.symm e)]
  grind[getElem?_eq_none,Bk.woL_len]
def Bk.woL_snoc(b:Bk)(K:List Nat)(k:Nat):b.woL (K++[k]) (λ _=>[])=b.woL K (λ _=>[])++[{ b.cas k with af:=[] }]:=by
 unfold Bk.woL;rw[length_append,length_cons,length_nil,range_succ,map_append];congr 1
 .refine map_congr_left λ p e=>?_;rw[mem_range]at e;rw[getD_eq_getElem?_getD,getElem?_append_left e,<- getD_eq_getElem?_getD]
 simp_all
def Bk.woL_congr{b:Bk}{K:List Nat}{g g':Nat->List Int}(h:∀p,p<K.length->g p=g' p):b.woL K g=b.woL K g':=
 map_congr_left λ p e=>S2
def Bk.wo_woL{b:Bk}{f:Nat->Bool}{W:List Nat}(w:∀i,i<b.cs.length->∀k,(W.getD i 0).testBit k=QP b.A f b.cs.length i k) :
  b.wo f=Bk.mk b.rs (b.woL (Bk.kpt f b.cs.length) λ p=>Bk.afK f (W.getD ((Bk.kpt f b.cs.length).getD p 0) 0) b.cs.length):=by
 have h:=Bk.wo_cs (out:=f) b W w;have:b.wo f=Bk.mk b.rs (b.wo f).cs:=rfl;rw[this,h];congr 1;unfold Bk.woL;apply ext_getElem?;intro i;rw[Bk.kpt_all];by_cases e:i<(b.kept f).length
 .simp[e,getD_eq_getElem?_getD]
 .rw[getElem?_eq_none (by simpa using e),getElem?_eq_none (by simpa using e)]
end Go.TM

