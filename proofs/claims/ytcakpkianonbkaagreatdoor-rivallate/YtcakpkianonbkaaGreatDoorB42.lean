/- Lemmas. No conditions. -/
import Derived.Test.YtcakpkianonbkaaGreatDoorB41
set_option linter.all false
open List
open Go.Proofs.Tryz (prog)
set_option maxRecDepth 100000
namespace Go.TM
variable{T:Type}{P:Program}{S:Sys P T}{U U':Qa T}
def Qcu(U:Qa T)(v:Value)(l:List Int):Prop:=∃a cap,v=.slice a l.length cap/\Z3 U a l.length l/\l.length<=cap
def Qcu.lg{v:Value}{l:List Int}(h:Qcu U v l)(hl:U.lg U'):Qcu U' v l:=let ⟨a,c,e,h,r⟩:=h;⟨a,c,e,h.lg hl,r⟩
def Qcu.nil:Qcu U (.slice none 0 0) []:=⟨none,0,rfl,⟨rfl,λ i x h=>by simp at h⟩,Nat.le_refl _⟩
def Qcu.v{v:Value}{l:List Int}(h:Qcu U v l):J0 U v l:=let ⟨a,c,e,h,_⟩:=h;⟨a,c,e,h⟩
def Qxo(S:Sys P T)(g:FuncId)(first capt:Array Value){α:Type}(enc:α->List Value)(n:Nat)(ps:List (List α))(I:Nat->Qa T->Prop)(E:Qa T->Prop)(U₀:Qa T):Prop:=
 ∀(k:Nat)(p:List α)(a:Option Addr)(cap:Nat)(U:Qa T)(X Mc:List Qv),ps[k]?=some p->U₀.frz.lg U.frz->Qx U.frz a p.length n p (λ x vs=>vs=enc x)->((∀ad,a=some ad->ad.spot=none)/\p.length<=cap)->U.M=X++Mc->I k ⟨U.I,Mc,U.tok⟩ ->
  Qb S g (first.toList++[Value.slice a p.length cap]++capt.toList).toArray (λ v U'=>(v=.bool false/\U.frz.lg U'.frz/\∃Mc',U'.M=X++Mc'/\I (k+1) ⟨U'.I,Mc',U'.tok⟩)\/(v=.bool true/\∃X' Mc',U'.M=X'++Mc'/\E ⟨U'.I,Mc',U'.tok⟩/\∀x o,U.I x=some o->U'.I x=some o)) U
def Src.lg'{a:Option Addr}{cs:List Value}(h:Src U a cs)(k:U.lg U'):Src U' a cs:=h.imp id λ⟨ad,e,r⟩=>⟨ad,e,r.lg k⟩
def Qb1{α:Type}{enc:α->List Value}{n:Nat}(hn:∀x,(enc x).length=n){a:Option Addr}{l:List α}(h:Src U a (l.flatMap enc))(hsp:∀ad,a=some ad->ad.spot=none)(hpos:0<n):Qx U a l.length n l λ x vs=>vs=enc x:=by
 refine⟨rfl,λ i x hx=>?_⟩
 have hne:(l.flatMap enc)≠[]:=by
  intro h0;have:=Q0 hn l;rw[h0]at this;have hl:=(List.getElem?_eq_some_iff.1 hx).1;have h2:0<l.length*n:=Nat.mul_pos (by omega) hpos;simp at this;omega
 rcases h with⟨_,hn'⟩|⟨ad,rfl,hr⟩
 .exact absurd hn' hne
 .refine⟨ad,enc x,rfl,hsp ad rfl,rfl,hn x,λ j v hv=>?_⟩;have hj:j<n:=by have:=(List.getElem?_eq_some_iff.1 hv).1;rw[hn]at this;exact this
  have h5:=hr (i*n+j) v (by rw[Qdl hn hx hj];exact hv);obtain⟨bb,oo,ss⟩:=ad;cases hsp ⟨bb,oo,ss⟩ rfl;rw[Qo]at h5;rw[Qo,Qo,Nat.add_assoc];exact h5
end Go.TM
namespace Go.Proofs
open Go.TM
variable{T:Type}{S:TM.Sys prog T}{U:Qa T}
attribute [local irreducible] Qb Zh We
def Qiu:SlT prog 70 78 2:=.of (by kernel_rfl)
def Zmt:prog.underlying 70=some (.slice 78):=by kernel_rfl
def Zz(n:Int):List Value:=[.int .i64 n]
def Qkw:List (List (Nat×St)):=[[(0,.xl 26 5),(0,.m 27 0),(0,.xo 28 0 4),(0,.xl 29 28),(0,.m 30 9),(0,.xi 31 2 29 30),(0,.xd 32 2 31),(0,.m 35 9),(0,.xa 36 35),(2,.d 33 (.bsl 78 1 #[(.int .i64 0),(.int .i64 0)] [(0,2,(.t 32))])),(2,.xz 34 27 33 70)]]
def Q0d:List St:=[.d 37 (.call (.t 26) #[(.t 34),(.t 36)])]
def Qkv:List (List (Nat×St)):=[[(0,.xl 26 5),(0,.m 27 0),(0,.xo 28 0 4),(0,.xl 29 28),(0,.m 30 9),(0,.xi 31 1 29 30),(0,.xl 32 31),(0,.m 35 9),(0,.xa 36 35),(2,.d 33 (.bsl 3 1 #[(.int .i64 0)] [(0,1,(.t 32))])),(2,.xz 34 27 33 22)]]
def Q0c:List St:=[.d 37 (.call (.t 26) #[(.t 34),(.t 36)])]
def encII(p:Int×Int):List Value:=[.int .i64 p.1,.int .i64 p.2]
def Q23(a:Option Addr)(cap:Nat)(l:List (Int×Int))(hs:Src U a (l.flatMap encII))(hlen:l.length<=1000) :
  Qb S 113 #[.slice a l.length cap] (λ v U'=>(∃a' cap',v=.slice a' l.length cap'/\Qx U'.frz a' l.length 2 l (λ x vs=>vs=encII x)/\(∀ad,a'=some ad->ad.spot=none)/\l.length<=cap')/\U.le U') U:=by
 have hfl:(l.flatMap encII).length=l.length*2:=Q0 (f:=encII) (λ _=>rfl) l
 have hsg:∀w∈l.flatMap encII,w.single=true:=by
  intro w hw;obtain⟨x,_,hx⟩:=mem_flatMap.1 hw;simp[encII]at hx
  first|(rcases hx with rfl|rfl <;> rfl)|(subst hx;rfl)
 have main:Qb S 113 #[.slice a l.length cap] (λ v U'=>Acc 78 2 v (l.flatMap encII) U'.M U.M/\(∀x o,U.I x=some o->U'.I x=some o)/\U'.tok=U.tok) U:=by
  refine Qb.of (args:=[_]) Qxx Qd (by simp) ?_
  conv=>whnf
  refine Qi7 Zmt rfl ?_
  conv=>whnf
  apply Qe<;>intro hc
  .have ha:a=none:=by simpa using hc
   subst ha
   have:l=[]:=by
    rcases hs with⟨_,h0⟩|⟨ad,h0,_⟩
    .cases l with
     |nil=>rfl
     |cons x r=>simp[encII]at h0
    .cases h0
   subst this
   repeat refine⟨rfl,?_⟩
   conv=>whnf
   exact⟨.nil,λ _ _ h=>h,rfl⟩
  .obtain⟨ad,rfl⟩:∃ad,a=some ad:=by cases a with|none=>cases hc|some ad=>exact⟨ad,rfl⟩
   conv=>whnf
   intro b5 hf5;refine⟨_,.refl _,?_⟩
   have hs':Src (U.put b5 (.cells #[] 78)) (some ad) (l.flatMap encII):=by
    rcases hs with⟨h0,_⟩|⟨ad',e,hr⟩
    .cases h0
    .cases e;exact .inr ⟨_,rfl,hr.lg (Z0 b5 _)⟩
   conv=>whnf
   refine Ws (v:=.slice (some ⟨b5,0,none⟩) 0 0) (cs:=[]) (new:=l.flatMap encII) (M₀:=U.M) Qiu rfl rfl .empty hs' hfl hsg (by rw[hfl,length_nil];omega) λ v' M' ha' _=>?_;obtain⟨ta,tl,tc,rfl,-,-⟩:=Acc.src (U:={ U with M:=M' }) ha'
   repeat refine⟨rfl,?_⟩
   conv=>whnf
   exact⟨by simpa using ha',λ _ _ h=>h,rfl⟩
 refine main.sep λ v U' hs'⟨ha,hI,ht⟩=>?_;obtain⟨U'',k1,k2,a',len',cap',rfl,hl',hsrc,hsp,_⟩:=ha.freeze hs' hI ht;have:l.length=len':=by have e:=hfl.symm.trans hl';omega
 subst this;exact⟨U'',k1,⟨a',cap',rfl,Qb1 (enc:=encII) (n:=2) (λ _=>rfl) hsrc hsp (by decide),hsp,ha.room⟩,k2⟩
structure EaP(U:Qa T)(l:List (Int×Int))(many:Nat)(g:FuncId)(first capt:Array Value)(bm bt bl bn:Nat):Prop where
 m:Zd U bm #[.int .i64 many]
 t:Zd U bt #[.func (.func g) first capt]
 l:∃a cap,Zd U bl #[.slice a l.length cap]/\Qx U.frz a l.length 2 l (λ x vs=>vs=encII x)
 n:Zd U bn #[.func (.func 112) #[] #[.pointer (some ⟨bm,0,none⟩),.pointer (some ⟨bt,0,none⟩),.pointer (some ⟨bl,0,none⟩),.pointer (some ⟨bn,0,none⟩)]]
def EaP.lg{U':Qa T}{l:List (Int×Int)}{many:Nat}{g:FuncId}{first capt:Array Value}{bm bt bl bn:Nat}(h:EaP U l many g first capt bm bt bl bn)(k:U.frz.lg U'.frz):EaP U' l many g first capt bm bt bl bn:=
 ⟨h.m.imI k.imm,h.t.imI k.imm,let ⟨a,c,h1,h2⟩:=h.l;⟨a,c,h1.imI k.imm,h2.lg k λ _ _ h=>h⟩,h.n.imI k.imm⟩
def Q22(a:Option Addr)(cap:Nat)(l:List Int)(hs:Src U a (l.flatMap Zz))(hlen:l.length<=1000) :
  Qb S 103 #[.slice a l.length cap] (λ v U'=>(∃a' cap',v=.slice a' l.length cap'/\Qx U'.frz a' l.length 1 l (λ x vs=>vs=Zz x)/\(∀ad,a'=some ad->ad.spot=none)/\l.length<=cap')/\U.le U') U:=by
 have hfl:(l.flatMap Zz).length=l.length*1:=Q0 (f:=Zz) (λ _=>rfl) l
 have hsg:∀w∈l.flatMap Zz,w.single=true:=by
  intro w hw;obtain⟨x,_,hx⟩:=mem_flatMap.1 hw;simp[Zz]at hx
  first|(rcases hx with rfl|rfl <;> rfl)|(subst hx;rfl)
 have main:Qb S 103 #[.slice a l.length cap] (λ v U'=>Acc 3 1 v (l.flatMap Zz) U'.M U.M/\(∀x o,U.I x=some o->U'.I x=some o)/\U'.tok=U.tok) U:=by
  refine Qb.of (args:=[_]) Qfd Qd (by simp) ?_
  conv=>whnf
  refine Qi7 Qh0 rfl ?_
  conv=>whnf
  apply Qe<;>intro hc
  .have ha:a=none:=by simpa using hc
   subst ha
   have:l=[]:=by
    rcases hs with⟨_,h0⟩|⟨ad,h0,_⟩
    .cases l with
     |nil=>rfl
     |cons x r=>simp[Zz]at h0
    .cases h0
   subst this
   repeat refine⟨rfl,?_⟩
   conv=>whnf
   exact⟨.nil,λ _ _ h=>h,rfl⟩
  .obtain⟨ad,rfl⟩:∃ad,a=some ad:=by cases a with|none=>cases hc|some ad=>exact⟨ad,rfl⟩
   conv=>whnf
   intro b5 hf5;refine⟨_,.refl _,?_⟩
   have hs':Src (U.put b5 (.cells #[] 3)) (some ad) (l.flatMap Zz):=by
    rcases hs with⟨h0,_⟩|⟨ad',e,hr⟩
    .cases h0
    .cases e;exact .inr ⟨_,rfl,hr.lg (Z0 b5 _)⟩
   conv=>whnf
   refine Ws (v:=.slice (some ⟨b5,0,none⟩) 0 0) (cs:=[]) (new:=l.flatMap Zz) (M₀:=U.M) Qay rfl rfl .empty hs' hfl hsg (by rw[hfl,length_nil];omega) λ v' M' ha' _=>?_;obtain⟨ta,tl,tc,rfl,-,-⟩:=Acc.src (U:={ U with M:=M' }) ha'
   repeat refine⟨rfl,?_⟩
   conv=>whnf
   exact⟨by simpa using ha',λ _ _ h=>h,rfl⟩
 refine main.sep λ v U' hs'⟨ha,hI,ht⟩=>?_;obtain⟨U'',k1,k2,a',len',cap',rfl,hl',hsrc,hsp,_⟩:=ha.freeze hs' hI ht;have:l.length=len':=by have e:=hfl.symm.trans hl';omega
 subst this;exact⟨U'',k1,⟨a',cap',rfl,Qb1 (enc:=Zz) (n:=1) (λ _=>rfl) hsrc hsp (by decide),hsp,ha.room⟩,k2⟩
structure EaI(U:Qa T)(l:List Int)(many:Nat)(g:FuncId)(first capt:Array Value)(bm bt bl bn:Nat):Prop where
 m:Zd U bm #[.int .i64 many]
 t:Zd U bt #[.func (.func g) first capt]
 l:∃a cap,Zd U bl #[.slice a l.length cap]/\Qx U.frz a l.length 1 l (λ x vs=>vs=Zz x)
 n:Zd U bn #[.func (.func 102) #[] #[.pointer (some ⟨bm,0,none⟩),.pointer (some ⟨bt,0,none⟩),.pointer (some ⟨bl,0,none⟩),.pointer (some ⟨bn,0,none⟩)]]
def EaI.lg{U':Qa T}{l:List Int}{many:Nat}{g:FuncId}{first capt:Array Value}{bm bt bl bn:Nat}(h:EaI U l many g first capt bm bt bl bn)(k:U.frz.lg U'.frz):EaI U' l many g first capt bm bt bl bn:=
 ⟨h.m.imI k.imm,h.t.imI k.imm,let ⟨a,c,h1,h2⟩:=h.l;⟨a,c,h1.imI k.imm,h2.lg k λ _ _ h=>h⟩,h.n.imI k.imm⟩
set_option maxHeartbeats 1000000 in
def Qw0(l:List (Int×Int))(hl:l.length<=1000)(many:Nat)(hm:many<=1000)(g:FuncId)(first capt:Array Value)(hg:(prog.funcs[g]?.any λ fd=>fd.body.isSome&&fd.name != "runtime.NumGoroutine")=true){bm bt bl bn:Nat}{ps:List (List (Int×Int))}{I:Nat->Qa T->Prop}{E:Qa T->Prop}{U₀:Qa T}
  (hst:∀k U1 U2,U1.le U2->I k U1->I k U2) (htk:Qxo S g first capt encII 2 ps I E U₀) :
  ∀(m:Nat)(x:List (Int×Int))(i j:Nat)(xv:Value)(U:Qa T)(Z Mc:List Qv),x.length+m=many->i<=l.length->U₀.frz.lg U.frz->EaP U l many g first capt bm bt bl bn->Acc 78 2 xv (x.flatMap encII) U.M (Z++Mc)->(∀(i':Nat)q,(TM.parts (l.drop i) m)[i']?=some q->ps[j+i']?=some (x++q))->I j ⟨U.I,Mc,U.tok⟩ ->
   Qb S 112 #[xv,.int .i64 i,.pointer (some ⟨bm,0,none⟩),.pointer (some ⟨bt,0,none⟩),.pointer (some ⟨bl,0,none⟩),.pointer (some ⟨bn,0,none⟩)]
    (λ v U'=>(v=.bool false/\U.frz.lg U'.frz/\∃Mc',Acc 78 2 xv (x.flatMap encII) U'.M (Z++Mc')/\I (j+(TM.parts (l.drop i) m).length) ⟨U'.I,Mc',U'.tok⟩)\/(v=.bool true/\∃X' Mc',U'.M=X'++Mc'/\E ⟨U'.I,Mc',U'.tok⟩/\∀x o,U.I x=some o->U'.I x=some o)) U:=by
 intro m
 induction m with
 |zero=>
  intro x i j xv U Z Mc hxm hi h0 hea hacc hps hI;obtain⟨sa,sl,sc,rfl,hsl,hsrc⟩:=hacc.src;have hxl:x.length=sl:=by have e:=(Q0 (f:=encII) (n:=2) (λ _=>rfl) x).symm.trans hsl;omega
  subst hxl
  obtain⟨A,hA⟩:∃A,U.M=A++(Z++Mc):=by
   rcases hacc with⟨_,_,hM⟩|⟨b,c,len,cap,_,_,_,_,hM,_⟩
   .exact⟨[],hM⟩
   .exact⟨[_],hM⟩
  refine Qb.of (args:=[_,_,_,_,_,_]) Qin Qd (by simp) ?_;refine⟨_,hea.m.sees3 (o:=0) rfl,?_⟩
  repeat refine⟨rfl,?_⟩
  conv=>whnf
  apply Qe<;>intro hc
  .refine⟨_,hea.t.sees3 (o:=0) rfl,λ v U'=>∃a' cap',v=.slice a' x.length cap'/\Qx U'.frz a' x.length 2 x (λ x vs=>vs=encII x)/\(∀ad,a'=some ad->ad.spot=none)/\x.length<=cap',λ v U1 U2⟨a',c',e,h,s⟩hle=>⟨a',c',e,h.lg hle.lg.frz2 λ _ _ h=>h,s⟩,λ U' hle hC=>?_,λ v hv=>?_⟩
   .refine⟨Qxx.any,(Q23 sa sc x (Src.lg' hsrc hle.lg) (by omega)).mono ?_⟩;rintro v U''⟨hv,hle'⟩-;exact⟨U'',.refl _,hv,hle'⟩
   obtain⟨_,-,-,a',c',rfl,-⟩:=hv
   conv=>whnf
   intro U1 h_1 hC;obtain⟨-,a2,c2,e2,hr,hs⟩:=hC;cases e2;have hps0:ps[j]?=some x:=by have:=hps 0 [] (by rw[Qdr];rfl);simpa using this
   have hM_1:U1.M=(A++Z)++Mc:=by rw[h_1.own,hA,append_assoc]
   refine⟨hg,(htk j x a' c' U1 (A++Z) Mc hps0 (h0.trans h_1.lg.frz2) hr hs hM_1 (hst j ⟨U.I,Mc,U.tok⟩ ⟨U1.I,Mc,U1.tok⟩ ⟨h_1.imm,rfl,h_1.tok⟩ hI)).mono ?_⟩;rintro v U2 (⟨rfl,hlg,Mc',hM_2,hI_2⟩|⟨rfl,X',Mc',hM_2,hE,himm⟩) -
   .repeat refine⟨rfl,?_⟩
    conv=>whnf
    refine .inl ⟨rfl,h_1.lg.frz2.trans hlg,Mc',?_,by rw[Qdr];exact hI_2⟩;rcases hacc with⟨e1,g2,hM⟩|⟨b,c,len,cap,e1,g1,g2,g3,hM,g5⟩
    .refine .inl ⟨e1,g2,?_⟩
     have:A=[]:=by
      rw[hM]at hA;exact self_eq_append_left.1 hA
     rw[hM_2,this];rfl
    .refine .inr ⟨b,c,len,cap,e1,g1,g2,g3,?_,g5⟩
     have:A=[.obj b (.cells c 78 (0,0))]:=by
      rw[hM]at hA;exact(append_cancel_right (show[Qv.obj b (.cells c 78 (0,0))]++(Z++Mc)=A++(Z++Mc) from hA)).symm
     rw[hM_2,this,append_assoc];rfl
   .repeat refine⟨rfl,?_⟩
    conv=>whnf
    exact .inr ⟨rfl,X',Mc',hM_2,hE,λ x o hx=>himm x o (h_1.imm x o hx)⟩
  .simp at hc;omega
 |succ m ih=>
  intro x i j xv U Z Mc hxm hi h0 hea hacc hps hI;obtain⟨sa,sl,sc,rfl,hsl,-⟩:=hacc.src;have hxl:x.length=sl:=by have e:=(Q0 (f:=encII) (n:=2) (λ _=>rfl) x).symm.trans hsl;omega
  subst hxl;have hfx:(x.flatMap encII).length=x.length*2:=Q0 (f:=encII) (λ _=>rfl) x;refine Qb.of (args:=[_,_,_,_,_,_]) Qin Qd (by simp) ?_;refine⟨_,hea.m.sees3 (o:=0) rfl,?_⟩
  repeat refine⟨rfl,?_⟩
  conv=>whnf
  apply Qe<;>intro hc
  .simp at hc;omega
  clear hc
  refine⟨Nat×Nat,λ y=>[(0,.slice sa x.length sc),(2,.pointer (some ⟨bm,0,none⟩)),(3,.pointer (some ⟨bt,0,none⟩)),(4,.pointer (some ⟨bl,0,none⟩)),(5,.pointer (some ⟨bn,0,none⟩)),(9,.int .i64 y.1)],
   λ y U'=>U.frz.lg U'.frz/\y.1<=l.length/\(∃Mc',Acc 78 2 (.slice sa x.length sc) (x.flatMap encII) U'.M (Z++Mc')/\I y.2 ⟨U'.I,Mc',U'.tok⟩)/\(∀(i':Nat)q,(TM.parts (l.drop y.1) (m+1))[i']?=some q->ps[y.2+i']?=some (x++q))/\y.2+(TM.parts (l.drop y.1) (m+1)).length=j+(TM.parts (l.drop i) (m+1)).length,
   λ y=>l.length-y.1,(i,j),by trivial,⟨⟨λ _ _ h=>h,⟨[],rfl⟩,rfl⟩,hi,⟨Mc,hacc,hI⟩,hps,rfl⟩,?_⟩
  rintro⟨i,jj⟩f U1⟨hlg,hi,⟨Mc',hacc,hI⟩,hps,hcnt⟩;simp only at hi hps hcnt hI;have hea1:=hea.lg hlg;obtain⟨la,lc,hbl,hrows⟩:=hea1.l;have hin:Zm ((i:Int)+1):=by unfold Zm;omega
  refine⟨_,hbl.sees3 (o:=0) rfl,?_⟩
  repeat refine⟨rfl,?_⟩
  conv=>whnf
  apply Qe<;>intro hc
  .have hlt:i<l.length:=by simpa using hc
   obtain⟨ad,e,vs,hx,rfl,hsp,rfl,-,hrd⟩:=Qx.at hrows hlt;have hpa:=Q6f (m:=m) hx;rw[hpa]at hps hcnt;rw[length_append,length_map]at hcnt;have hnf:Zd U1.frz bn _:=hea1.n.imI λ _ _ h=>h;have hlf:Zd U1.frz bl _:=hbl.imI λ _ _ h=>h
   conv=>whnf
   intro ac hfr0
   refine Qvg (mu:=[1006]) (ops:=Q6m Tryz.f112 6) (id:=6) hfr0 [7,8] [[0,1,2,3,4,5,6,9,10,7,8]] [11] Qkw Q0d Qd (by kernel_rfl) (by kernel_rfl) (by kernel_rfl) (by kernel_rfl) (by kernel_rfl)
    (λ f' ds' U'=>ds'=[]/\∃(v34:Value)(Zn:List Qv),Qjc f' [(0,.slice sa x.length sc),(2,.pointer (some ⟨bm,0,none⟩)),(3,.pointer (some ⟨bt,0,none⟩)),(4,.pointer (some ⟨bl,0,none⟩)),(5,.pointer (some ⟨bn,0,none⟩)),(9,.int .i64 i),(26,.func (.func 112) #[] #[.pointer (some ⟨bm,0,none⟩),.pointer (some ⟨bt,0,none⟩),.pointer (some ⟨bl,0,none⟩),.pointer (some ⟨bn,0,none⟩)]),(34,v34),(36,.int .i64 ((i:Int)+1))]/\Acc 78 2 v34 (x.flatMap encII++encII e) U'.M (Zn++(Z++Mc'))/\(∀M'' B,Acc 78 2 v34 (x.flatMap encII++encII e) M'' (Zn++B)->∃M3:List Qv,M3.Sublist M''/\Acc 78 2 (.slice sa x.length sc) (x.flatMap encII) M3 B)/\U1.frz.lg U') ?_ ?_
   .intro l' hl';simp only[Qkw,mem_cons,not_mem_nil,or_false]at hl';subst hl';refine⟨_,hnf.sees3 (o:=0) rfl,_,hlf.sees3 (o:=0) rfl,ad,i,⟨rfl,rfl,hlt⟩,_,⟨rfl,hrd⟩,hin,λ v U'=>∃b33,v=.slice (some ⟨b33,0,none⟩) 1 1/\Zd U' b33 (encII e).toArray/\U1.le U',λ v U1 U2⟨b33,e1,hb,hl⟩hle=>⟨b33,e1,hb.le hle,hl.trans hle⟩,λ v U'⟨b33,e1,hb,hl⟩=>⟨hl.imm,⟨_,(append_nil _).symm⟩,hl.tok⟩,λ U' hC=>?_,λ v hv=>?_⟩
    .have hle:=hC
     conv=>whnf
     intro b33 hf33;exact Zk hf33 λ U3 h_3 hb=>⟨U3,.refl _,b33,rfl,hb,Qa.le.trans hle h_3⟩
    obtain⟨_,b33,rfl,-⟩:=hv;refine⟨λ v U'=>∃Zn,(∃a' l' c',v=.slice a' l' c')/\Acc 78 2 v (x.flatMap encII++encII e) U'.M (Zn++(Z++Mc'))/\(∀M'' B,Acc 78 2 v (x.flatMap encII++encII e) M'' (Zn++B)->∃M3:List Qv,M3.Sublist M''/\Acc 78 2 (.slice sa x.length sc) (x.flatMap encII) M3 B)/\U1.frz.lg U',λ v U1 U2⟨Zn,hs,h1,h2,h3⟩hle=>⟨Zn,hs,by rw[hle.own];exact h1,h2,h3.trans hle.lg⟩,λ v U'⟨Zn,hs,h1,h2,h3⟩=>h3,λ U' hC=>?_,λ v hv=>?_⟩
    .obtain⟨b33',e33,hb33,hle⟩:=hC;cases e33
     conv=>whnf
     refine Q6j (v:=.slice sa x.length sc) (cs:=x.flatMap encII) (new:=encII e) (M₀:=Z++Mc') Qiu rfl rfl (by rw[hle.own];exact hacc) (.inr ⟨_,rfl,hb33.reads (λ k v hv=>by simpa using hv)⟩) rfl (by simp[encII,Value.single]) (by rw[hfx];simp[encII];omega) (by simp[encII]) λ v' M' Zn h1 h2=>?_;refine⟨_,.refl _,Zn,?_,h1,h2,⟨hle.imm,⟨_,(append_nil _).symm⟩,hle.tok⟩⟩;obtain⟨ta,tl,tc,e1,-⟩:=Acc.src (U:={ U' with M:=M' }) h1;exact⟨ta,tl,tc,e1⟩
    obtain⟨_,Zn,⟨va,vl,vc,rfl⟩,-⟩:=hv
    conv=>whnf
    rintro U'⟨Zn',-,h1,h2,h3⟩;exact⟨rfl,_,Zn',by trivial,h1,h2,h3⟩
   rintro f' ds' U2⟨rfl,v34,Zn,hfr,hacc2,hres,hlg2⟩;rw[<- hfr.ovr];clear hfr;obtain⟨va,vl,vc,rfl,-⟩:=hacc2.src;have hlg02:U.frz.lg U2.frz:=hlg.trans hlg2.frz2;have hxe:(x++[e]).flatMap encII=x.flatMap encII++encII e:=by rw[flatMap_append];simp
   have hcall:=ih (x++[e]) (i+1) jj (.slice va vl vc) U2 (Zn++Z) Mc' (by rw[length_append];simp;omega) (by omega) (h0.trans hlg02) (hea.lg hlg02) (by rw[hxe,append_assoc];exact hacc2) (λ t q hq=>by
    have:=hps t (e::q) (by
     rw[getElem?_append_left (by rw[length_map];exact(List.getElem?_eq_some_iff.1 hq).1),getElem?_map,hq];rfl)
    rw[this];simp) (hst jj ⟨U1.I,Mc',U1.tok⟩ ⟨U2.I,Mc',U2.tok⟩ ⟨hlg2.imm,rfl,hlg2.tok⟩ hI)
   have hcall:=hcall.post (R':=λ v U'=>(v=.bool false/\U2.frz.lg U'.frz/\∃Mc'',Acc 78 2 (.slice sa x.length sc) (x.flatMap encII) U'.M (Z++Mc'')/\I (jj+(TM.parts (l.drop (i+1)) m).length) ⟨U'.I,Mc'',U'.tok⟩)\/(v=.bool true/\∃X' Mc',U'.M=X'++Mc'/\E ⟨U'.I,Mc',U'.tok⟩/\∀x o,U2.I x=some o->U'.I x=some o)) λ v U' hv=>by
    rcases hv with⟨rfl,hl,Mc'',ha,hI'⟩|h
    .rw[hxe,append_assoc]at ha;obtain⟨M3,hsub,ha3⟩:=hres _ _ ha;exact⟨_,Z4 hsub,.inl ⟨rfl,hl,Mc'',ha3,hI'⟩⟩
    .exact⟨U',.refl _,.inr h⟩
   refine⟨Qin.any,hcall.mono ?_⟩;rintro v U3 (⟨rfl,hl,Mc'',ha,hI'⟩|⟨rfl,X',Mc'',hM',hE,himm⟩) -
   .conv=>whnf
    intro a' hf';refine⟨by rw[hf'.size,hfr0.size],_,hf'.get,?_⟩;rw[hf'.ds];clear hf' hfr0;refine⟨hin,rfl,(i+1,jj+(TM.parts (l.drop (i+1)) m).length),by trivial,⟨hlg02.trans hl,by show i+1<=l.length;omega,⟨Mc'',ha,hI'⟩,λ t q hq=>?_,by show jj+(TM.parts (l.drop (i+1)) m).length+(TM.parts (l.drop (i+1)) (m+1)).length=_;omega⟩,by show _-_<_-_;omega⟩;show ps[jj+(TM.parts (l.drop (i+1)) m).length+t]?=_;rw[Nat.add_assoc];refine hps _ q ?_;rw[getElem?_append_right (by rw[length_map];omega),length_map,Nat.add_sub_cancel_left];exact hq
   .conv=>whnf
    intro a' hf';refine⟨by rw[hf'.size,hfr0.size],_,hf'.get,?_⟩;rw[hf'.ds];clear hf' hfr0
    repeat refine⟨rfl,?_⟩
    conv=>whnf
    exact .inr ⟨rfl,X',Mc'',hM',hE,λ x o hx=>himm x o (hlg02.imm x o hx)⟩
  .have hge:l.length<=i:=by simpa using hc
   rw[Qzk hge,length_nil,Nat.add_zero]at hcnt
   repeat refine⟨rfl,?_⟩
   conv=>whnf
   exact .inl ⟨rfl,hlg,Mc',hacc,by rw[<- hcnt];exact hI⟩
set_option maxHeartbeats 1000000 in
def Qwz(l:List Int)(hl:l.length<=1000)(many:Nat)(hm:many<=1000)(g:FuncId)(first capt:Array Value)(hg:(prog.funcs[g]?.any λ fd=>fd.body.isSome&&fd.name != "runtime.NumGoroutine")=true){bm bt bl bn:Nat}{ps:List (List Int)}{I:Nat->Qa T->Prop}{E:Qa T->Prop}{U₀:Qa T}
  (hst:∀k U1 U2,U1.le U2->I k U1->I k U2) (htk:Qxo S g first capt Zz 1 ps I E U₀) :
  ∀(m:Nat)(x:List Int)(i j:Nat)(xv:Value)(U:Qa T)(Z Mc:List Qv),x.length+m=many->i<=l.length->U₀.frz.lg U.frz->EaI U l many g first capt bm bt bl bn->Acc 3 1 xv (x.flatMap Zz) U.M (Z++Mc)->(∀(i':Nat)q,(TM.parts (l.drop i) m)[i']?=some q->ps[j+i']?=some (x++q))->I j ⟨U.I,Mc,U.tok⟩ ->
   Qb S 102 #[xv,.int .i64 i,.pointer (some ⟨bm,0,none⟩),.pointer (some ⟨bt,0,none⟩),.pointer (some ⟨bl,0,none⟩),.pointer (some ⟨bn,0,none⟩)]
    (λ v U'=>(v=.bool false/\U.frz.lg U'.frz/\∃Mc',Acc 3 1 xv (x.flatMap Zz) U'.M (Z++Mc')/\I (j+(TM.parts (l.drop i) m).length) ⟨U'.I,Mc',U'.tok⟩)\/(v=.bool true/\∃X' Mc',U'.M=X'++Mc'/\E ⟨U'.I,Mc',U'.tok⟩/\∀x o,U.I x=some o->U'.I x=some o)) U:=by
 intro m
 induction m with
 |zero=>
  intro x i j xv U Z Mc hxm hi h0 hea hacc hps hI;obtain⟨sa,sl,sc,rfl,hsl,hsrc⟩:=hacc.src;have hxl:x.length=sl:=by have e:=(Q0 (f:=Zz) (n:=1) (λ _=>rfl) x).symm.trans hsl;omega
  subst hxl
  obtain⟨A,hA⟩:∃A,U.M=A++(Z++Mc):=by
   rcases hacc with⟨_,_,hM⟩|⟨b,c,len,cap,_,_,_,_,hM,_⟩
   .exact⟨[],hM⟩
   .exact⟨[_],hM⟩
  refine Qb.of (args:=[_,_,_,_,_,_]) Qil Qd (by simp) ?_;refine⟨_,hea.m.sees3 (o:=0) rfl,?_⟩
  repeat refine⟨rfl,?_⟩
  conv=>whnf
  apply Qe<;>intro hc
  .refine⟨_,hea.t.sees3 (o:=0) rfl,λ v U'=>∃a' cap',v=.slice a' x.length cap'/\Qx U'.frz a' x.length 1 x (λ x vs=>vs=Zz x)/\(∀ad,a'=some ad->ad.spot=none)/\x.length<=cap',λ v U1 U2⟨a',c',e,h,s⟩hle=>⟨a',c',e,h.lg hle.lg.frz2 λ _ _ h=>h,s⟩,λ U' hle hC=>?_,λ v hv=>?_⟩
   .refine⟨Qfd.any,(Q22 sa sc x (Src.lg' hsrc hle.lg) (by omega)).mono ?_⟩;rintro v U''⟨hv,hle'⟩-;exact⟨U'',.refl _,hv,hle'⟩
   obtain⟨_,-,-,a',c',rfl,-⟩:=hv
   conv=>whnf
   intro U1 h_1 hC;obtain⟨-,a2,c2,e2,hr,hs⟩:=hC;cases e2;have hps0:ps[j]?=some x:=by have:=hps 0 [] (by rw[Qdr];rfl);simpa using this
   have hM_1:U1.M=(A++Z)++Mc:=by rw[h_1.own,hA,append_assoc]
   refine⟨hg,(htk j x a' c' U1 (A++Z) Mc hps0 (h0.trans h_1.lg.frz2) hr hs hM_1 (hst j ⟨U.I,Mc,U.tok⟩ ⟨U1.I,Mc,U1.tok⟩ ⟨h_1.imm,rfl,h_1.tok⟩ hI)).mono ?_⟩;rintro v U2 (⟨rfl,hlg,Mc',hM_2,hI_2⟩|⟨rfl,X',Mc',hM_2,hE,himm⟩) -
   .repeat refine⟨rfl,?_⟩
    conv=>whnf
    refine .inl ⟨rfl,h_1.lg.frz2.trans hlg,Mc',?_,by rw[Qdr];exact hI_2⟩;rcases hacc with⟨e1,g2,hM⟩|⟨b,c,len,cap,e1,g1,g2,g3,hM,g5⟩
    .refine .inl ⟨e1,g2,?_⟩
     have:A=[]:=by
      rw[hM]at hA;exact self_eq_append_left.1 hA
     rw[hM_2,this];rfl
    .refine .inr ⟨b,c,len,cap,e1,g1,g2,g3,?_,g5⟩
     have:A=[.obj b (.cells c 3 (0,0))]:=by
      rw[hM]at hA;exact(append_cancel_right (show[Qv.obj b (.cells c 3 (0,0))]++(Z++Mc)=A++(Z++Mc) from hA)).symm
     rw[hM_2,this,append_assoc];rfl
   .repeat refine⟨rfl,?_⟩
    conv=>whnf
    exact .inr ⟨rfl,X',Mc',hM_2,hE,λ x o hx=>himm x o (h_1.imm x o hx)⟩
  .simp at hc;omega
 |succ m ih=>
  intro x i j xv U Z Mc hxm hi h0 hea hacc hps hI;obtain⟨sa,sl,sc,rfl,hsl,-⟩:=hacc.src;have hxl:x.length=sl:=by have e:=(Q0 (f:=Zz) (n:=1) (λ _=>rfl) x).symm.trans hsl;omega
  subst hxl;have hfx:(x.flatMap Zz).length=x.length*1:=Q0 (f:=Zz) (λ _=>rfl) x;refine Qb.of (args:=[_,_,_,_,_,_]) Qil Qd (by simp) ?_;refine⟨_,hea.m.sees3 (o:=0) rfl,?_⟩
  repeat refine⟨rfl,?_⟩
  conv=>whnf
  apply Qe<;>intro hc
  .simp at hc;omega
  clear hc
  refine⟨Nat×Nat,λ y=>[(0,.slice sa x.length sc),(2,.pointer (some ⟨bm,0,none⟩)),(3,.pointer (some ⟨bt,0,none⟩)),(4,.pointer (some ⟨bl,0,none⟩)),(5,.pointer (some ⟨bn,0,none⟩)),(9,.int .i64 y.1)],
   λ y U'=>U.frz.lg U'.frz/\y.1<=l.length/\(∃Mc',Acc 3 1 (.slice sa x.length sc) (x.flatMap Zz) U'.M (Z++Mc')/\I y.2 ⟨U'.I,Mc',U'.tok⟩)/\(∀(i':Nat)q,(TM.parts (l.drop y.1) (m+1))[i']?=some q->ps[y.2+i']?=some (x++q))/\y.2+(TM.parts (l.drop y.1) (m+1)).length=j+(TM.parts (l.drop i) (m+1)).length,
   λ y=>l.length-y.1,(i,j),by trivial,⟨⟨λ _ _ h=>h,⟨[],rfl⟩,rfl⟩,hi,⟨Mc,hacc,hI⟩,hps,rfl⟩,?_⟩
  rintro⟨i,jj⟩f U1⟨hlg,hi,⟨Mc',hacc,hI⟩,hps,hcnt⟩;simp only at hi hps hcnt hI;have hea1:=hea.lg hlg;obtain⟨la,lc,hbl,hrows⟩:=hea1.l;have hin:Zm ((i:Int)+1):=by unfold Zm;omega
  refine⟨_,hbl.sees3 (o:=0) rfl,?_⟩
  repeat refine⟨rfl,?_⟩
  conv=>whnf
  apply Qe<;>intro hc
  .have hlt:i<l.length:=by simpa using hc
   obtain⟨ad,e,vs,hx,rfl,hsp,rfl,-,hrd⟩:=Qx.at hrows hlt;have hpa:=Q6f (m:=m) hx;rw[hpa]at hps hcnt;rw[length_append,length_map]at hcnt;have hnf:Zd U1.frz bn _:=hea1.n.imI λ _ _ h=>h;have hlf:Zd U1.frz bl _:=hbl.imI λ _ _ h=>h
   conv=>whnf
   intro ac hfr0
   refine Qvg (mu:=[1006]) (ops:=Q6m Tryz.f102 6) (id:=6) hfr0 [7,8] [[0,1,2,3,4,5,6,9,10,7,8]] [11] Qkv Q0c Qd (by kernel_rfl) (by kernel_rfl) (by kernel_rfl) (by kernel_rfl) (by kernel_rfl)
    (λ f' ds' U'=>ds'=[]/\∃(v34:Value)(Zn:List Qv),Qjc f' [(0,.slice sa x.length sc),(2,.pointer (some ⟨bm,0,none⟩)),(3,.pointer (some ⟨bt,0,none⟩)),(4,.pointer (some ⟨bl,0,none⟩)),(5,.pointer (some ⟨bn,0,none⟩)),(9,.int .i64 i),(26,.func (.func 102) #[] #[.pointer (some ⟨bm,0,none⟩),.pointer (some ⟨bt,0,none⟩),.pointer (some ⟨bl,0,none⟩),.pointer (some ⟨bn,0,none⟩)]),(34,v34),(36,.int .i64 ((i:Int)+1))]/\Acc 3 1 v34 (x.flatMap Zz++Zz e) U'.M (Zn++(Z++Mc'))/\(∀M'' B,Acc 3 1 v34 (x.flatMap Zz++Zz e) M'' (Zn++B)->∃M3:List Qv,M3.Sublist M''/\Acc 3 1 (.slice sa x.length sc) (x.flatMap Zz) M3 B)/\U1.frz.lg U') ?_ ?_
   .intro l' hl';simp only[Qkv,mem_cons,not_mem_nil,or_false]at hl';subst hl';refine⟨_,hnf.sees3 (o:=0) rfl,_,hlf.sees3 (o:=0) rfl,ad,i,⟨rfl,rfl,hlt⟩,_,hrd 0 _ rfl,hin,λ v U'=>∃b33,v=.slice (some ⟨b33,0,none⟩) 1 1/\Zd U' b33 (Zz e).toArray/\U1.le U',λ v U1 U2⟨b33,e1,hb,hl⟩hle=>⟨b33,e1,hb.le hle,hl.trans hle⟩,λ v U'⟨b33,e1,hb,hl⟩=>⟨hl.imm,⟨_,(append_nil _).symm⟩,hl.tok⟩,λ U' hC=>?_,λ v hv=>?_⟩
    .have hle:=hC
     conv=>whnf
     intro b33 hf33;exact Zk hf33 λ U3 h_3 hb=>⟨U3,.refl _,b33,rfl,hb,Qa.le.trans hle h_3⟩
    obtain⟨_,b33,rfl,-⟩:=hv;refine⟨λ v U'=>∃Zn,(∃a' l' c',v=.slice a' l' c')/\Acc 3 1 v (x.flatMap Zz++Zz e) U'.M (Zn++(Z++Mc'))/\(∀M'' B,Acc 3 1 v (x.flatMap Zz++Zz e) M'' (Zn++B)->∃M3:List Qv,M3.Sublist M''/\Acc 3 1 (.slice sa x.length sc) (x.flatMap Zz) M3 B)/\U1.frz.lg U',λ v U1 U2⟨Zn,hs,h1,h2,h3⟩hle=>⟨Zn,hs,by rw[hle.own];exact h1,h2,h3.trans hle.lg⟩,λ v U'⟨Zn,hs,h1,h2,h3⟩=>h3,λ U' hC=>?_,λ v hv=>?_⟩
    .obtain⟨b33',e33,hb33,hle⟩:=hC;cases e33
     conv=>whnf
     refine Q6j (v:=.slice sa x.length sc) (cs:=x.flatMap Zz) (new:=Zz e) (M₀:=Z++Mc') Qay rfl rfl (by rw[hle.own];exact hacc) (.inr ⟨_,rfl,hb33.reads (λ k v hv=>by simpa using hv)⟩) rfl (by simp[Zz,Value.single]) (by rw[hfx];simp[Zz];omega) (by simp[Zz]) λ v' M' Zn h1 h2=>?_;refine⟨_,.refl _,Zn,?_,h1,h2,⟨hle.imm,⟨_,(append_nil _).symm⟩,hle.tok⟩⟩;obtain⟨ta,tl,tc,e1,-⟩:=Acc.src (U:={ U' with M:=M' }) h1;exact⟨ta,tl,tc,e1⟩
    obtain⟨_,Zn,⟨va,vl,vc,rfl⟩,-⟩:=hv
    conv=>whnf
    rintro U'⟨Zn',-,h1,h2,h3⟩;exact⟨rfl,_,Zn',by trivial,h1,h2,h3⟩
   rintro f' ds' U2⟨rfl,v34,Zn,hfr,hacc2,hres,hlg2⟩;rw[<- hfr.ovr];clear hfr;obtain⟨va,vl,vc,rfl,-⟩:=hacc2.src;have hlg02:U.frz.lg U2.frz:=hlg.trans hlg2.frz2;have hxe:(x++[e]).flatMap Zz=x.flatMap Zz++Zz e:=by rw[flatMap_append];simp
   have hcall:=ih (x++[e]) (i+1) jj (.slice va vl vc) U2 (Zn++Z) Mc' (by rw[length_append];simp;omega) (by omega) (h0.trans hlg02) (hea.lg hlg02) (by rw[hxe,append_assoc];exact hacc2) (λ t q hq=>by
    have:=hps t (e::q) (by
     rw[getElem?_append_left (by rw[length_map];exact(List.getElem?_eq_some_iff.1 hq).1),getElem?_map,hq];rfl)
    rw[this];simp) (hst jj ⟨U1.I,Mc',U1.tok⟩ ⟨U2.I,Mc',U2.tok⟩ ⟨hlg2.imm,rfl,hlg2.tok⟩ hI)
   have hcall:=hcall.post (R':=λ v U'=>(v=.bool false/\U2.frz.lg U'.frz/\∃Mc'',Acc 3 1 (.slice sa x.length sc) (x.flatMap Zz) U'.M (Z++Mc'')/\I (jj+(TM.parts (l.drop (i+1)) m).length) ⟨U'.I,Mc'',U'.tok⟩)\/(v=.bool true/\∃X' Mc',U'.M=X'++Mc'/\E ⟨U'.I,Mc',U'.tok⟩/\∀x o,U2.I x=some o->U'.I x=some o)) λ v U' hv=>by
    rcases hv with⟨rfl,hl,Mc'',ha,hI'⟩|h
    .rw[hxe,append_assoc]at ha;obtain⟨M3,hsub,ha3⟩:=hres _ _ ha;exact⟨_,Z4 hsub,.inl ⟨rfl,hl,Mc'',ha3,hI'⟩⟩
    .exact⟨U',.refl _,.inr h⟩
   refine⟨Qil.any,hcall.mono ?_⟩;rintro v U3 (⟨rfl,hl,Mc'',ha,hI'⟩|⟨rfl,X',Mc'',hM',hE,himm⟩) -
   .conv=>whnf
    intro a' hf';refine⟨by rw[hf'.size,hfr0.size],_,hf'.get,?_⟩;rw[hf'.ds];clear hf' hfr0;refine⟨hin,rfl,(i+1,jj+(TM.parts (l.drop (i+1)) m).length),by trivial,⟨hlg02.trans hl,by show i+1<=l.length;omega,⟨Mc'',ha,hI'⟩,λ t q hq=>?_,by show jj+(TM.parts (l.drop (i+1)) m).length+(TM.parts (l.drop (i+1)) (m+1)).length=_;omega⟩,by show _-_<_-_;omega⟩;show ps[jj+(TM.parts (l.drop (i+1)) m).length+t]?=_;rw[Nat.add_assoc];refine hps _ q ?_;rw[getElem?_append_right (by rw[length_map];omega),length_map,Nat.add_sub_cancel_left];exact hq
   .conv=>whnf
    intro a' hf';refine⟨by rw[hf'.size,hfr0.size],_,hf'.get,?_⟩;rw[hf'.ds];clear hf' hfr0
    repeat refine⟨rfl,?_⟩
    conv=>whnf
    exact .inr ⟨rfl,X',Mc'',hM',hE,λ x o hx=>himm x o (hlg02.imm x o hx)⟩
  .have hge:l.length<=i:=by simpa using hc
   rw[Qzk hge,length_nil,Nat.add_zero]at hcnt
   repeat refine⟨rfl,?_⟩
   conv=>whnf
   exact .inl ⟨rfl,hlg,Mc',hacc,by rw[<- hcnt];exact hI⟩
end Go.Proofs
namespace Go.TM
variable{T:Type}{P:Program}{S:Sys P T}{U U':Qa T}
def Qbh{α:Type}(l:List α)(p:List α->Bool):Nat->Nat->Option (List α)
 |_,0=>none
 |m,n+1=>match(TM.parts l m).find? p with
  |some x=>some x
  |none=>Qbh l p (m+1) n
def Q53{α:Type}(l:List α)(p:List α->Bool)(m n:Nat):Qbh l p m (n+1)=match(TM.parts l m).find? p with
  |some x=>some x
  |none=>Qbh l p (m+1) n:=rfl
end Go.TM
namespace Go.Proofs
open Go.TM
variable{T:Type}{S:TM.Sys prog T}{U:Qa T}
attribute [local irreducible] Qb Zh We
def Qwr(l:List (Int×Int))(la:Option Addr)(lc:Nat)(hrows:Qx U.frz la l.length 2 l (λ x vs=>vs=encII x))(hl:l.length<=1000)(many:Nat)(hm:many<=1000)(g:FuncId)(first capt:Array Value)(hg:(prog.funcs[g]?.any λ fd=>fd.body.isSome&&fd.name != "runtime.NumGoroutine")=true){I:Nat->Qa T->Prop}{E:Qa T->Prop}
  (hst:∀k U1 U2,U1.le U2->I k U1->I k U2) (htk:Qxo S g first capt encII 2 (TM.parts l many) I E U) (hI:I 0 U) :
  Qb S 88 #[.agg #[.slice la l.length lc],.int .i64 many,.func (.func g) first capt] (λ v U'=>(v=.bool false/\U.frz.lg U'.frz/\I (TM.parts l many).length U')\/(v=.bool true/\E U'/\∀x o,U.I x=some o->U'.I x=some o)) U:=by
 refine Qb.post (R:=λ v U'=>(v=.bool false/\U.frz.lg U'.frz/\I (TM.parts l many).length U')\/(v=.bool true/\∃X' Mc',U'.M=X'++Mc'/\E ⟨U'.I,Mc',U'.tok⟩/\∀x o,U.I x=some o->U'.I x=some o)) (Qb.of (args:=[_,_,_]) Q34 Qd (by simp) ?_) λ v U' hv=>?_
 .conv=>whnf
  intro b3 U1 h_1 hb3;have hb3:Zd U1 b3 #[.slice la l.length lc]:=hb3
  conv=>whnf
  intro b4 U2 h_2 hb4;have hb4:Zd U2 b4 #[.int .i64 many]:=hb4
  conv=>whnf
  intro b5 U3 h_3 hb5;have hb5:Zd U3 b5 #[.func (.func g) first capt]:=hb5
  conv=>whnf
  intro b7 hf7;refine⟨_,.refl _,rfl,Zs (vs:=[.func (.func 112) #[] #[.pointer (some ⟨b4,0,none⟩),.pointer (some ⟨b5,0,none⟩),.pointer (some ⟨b3,0,none⟩),.pointer (some ⟨b7,0,none⟩)]]) hf7 rfl (by simp[Value.single]) λ U4 h_4 hb7=>?_⟩;have hle:=((h_1.trans h_2).trans h_3).trans h_4;have hea:EaP U4 l many g first capt b4 b5 b3 b7:=⟨hb4.le (h_3.trans h_4),hb5.le h_4,⟨la,lc,hb3.le ((h_2.trans h_3).trans h_4),hrows.lg hle.lg.frz2 λ _ _ h=>h⟩,hb7⟩
  refine⟨_,hb7.sees3 (o:=0) rfl,Qin.any,(Qw0 l hl many hm g first capt hg hst htk many [] 0 0 (.slice none 0 0) U4 [] U4.M (by simp) (by omega) hle.lg.frz2 hea .nil (λ i' q hq=>by rw[Nat.zero_add];exact hq) (hst 0 U U4 hle hI)).mono ?_⟩;rintro v U5 (⟨rfl,hl_5,Mc',hacc,hI_5⟩|⟨rfl,X',Mc',hM',hE,himm⟩) -
  .rcases hacc with⟨_,_,hM⟩|⟨b,c,len,cap,e1,_⟩
   .rw[Nat.zero_add]at hI_5
    repeat refine⟨rfl,?_⟩
    conv=>whnf
    refine .inl ⟨rfl,hle.lg.frz2.trans hl_5,?_⟩;have:U5.M=Mc':=hM;obtain⟨i5,m5,t5⟩:=U5;simp only at this;subst this;exact hI_5
   .cases e1
  .repeat refine⟨rfl,?_⟩
   conv=>whnf
   exact .inr ⟨rfl,X',Mc',hM',hE,λ x o hx=>himm x o (hle.imm x o hx)⟩
 .rcases hv with h|⟨rfl,X',Mc',hM,hE,himm⟩
  .exact⟨U',.refl _,.inl h⟩
  .exact⟨{ U' with M:=Mc' },Z4 (by rw[hM];exact sublist_append_right ..),.inr ⟨rfl,hE,himm⟩⟩
def Qwq(l:List Int)(la:Option Addr)(lc:Nat)(hrows:Qx U.frz la l.length 1 l (λ x vs=>vs=Zz x))(hl:l.length<=1000)(many:Nat)(hm:many<=1000)(g:FuncId)(first capt:Array Value)(hg:(prog.funcs[g]?.any λ fd=>fd.body.isSome&&fd.name != "runtime.NumGoroutine")=true){I:Nat->Qa T->Prop}{E:Qa T->Prop}
  (hst:∀k U1 U2,U1.le U2->I k U1->I k U2) (htk:Qxo S g first capt Zz 1 (TM.parts l many) I E U) (hI:I 0 U) :
  Qb S 68 #[.agg #[.slice la l.length lc],.int .i64 many,.func (.func g) first capt] (λ v U'=>(v=.bool false/\U.frz.lg U'.frz/\I (TM.parts l many).length U')\/(v=.bool true/\E U'/\∀x o,U.I x=some o->U'.I x=some o)) U:=by
 refine Qb.post (R:=λ v U'=>(v=.bool false/\U.frz.lg U'.frz/\I (TM.parts l many).length U')\/(v=.bool true/\∃X' Mc',U'.M=X'++Mc'/\E ⟨U'.I,Mc',U'.tok⟩/\∀x o,U.I x=some o->U'.I x=some o)) (Qb.of (args:=[_,_,_]) Q3u Qd (by simp) ?_) λ v U' hv=>?_
 .conv=>whnf
  intro b3 U1 h_1 hb3;have hb3:Zd U1 b3 #[.slice la l.length lc]:=hb3
  conv=>whnf
  intro b4 U2 h_2 hb4;have hb4:Zd U2 b4 #[.int .i64 many]:=hb4
  conv=>whnf
  intro b5 U3 h_3 hb5;have hb5:Zd U3 b5 #[.func (.func g) first capt]:=hb5
  conv=>whnf
  intro b7 hf7;refine⟨_,.refl _,rfl,Zs (vs:=[.func (.func 102) #[] #[.pointer (some ⟨b4,0,none⟩),.pointer (some ⟨b5,0,none⟩),.pointer (some ⟨b3,0,none⟩),.pointer (some ⟨b7,0,none⟩)]]) hf7 rfl (by simp[Value.single]) λ U4 h_4 hb7=>?_⟩;have hle:=((h_1.trans h_2).trans h_3).trans h_4;have hea:EaI U4 l many g first capt b4 b5 b3 b7:=⟨hb4.le (h_3.trans h_4),hb5.le h_4,⟨la,lc,hb3.le ((h_2.trans h_3).trans h_4),hrows.lg hle.lg.frz2 λ _ _ h=>h⟩,hb7⟩
  refine⟨_,hb7.sees3 (o:=0) rfl,Qil.any,(Qwz l hl many hm g first capt hg hst htk many [] 0 0 (.slice none 0 0) U4 [] U4.M (by simp) (by omega) hle.lg.frz2 hea .nil (λ i' q hq=>by rw[Nat.zero_add];exact hq) (hst 0 U U4 hle hI)).mono ?_⟩;rintro v U5 (⟨rfl,hl_5,Mc',hacc,hI_5⟩|⟨rfl,X',Mc',hM',hE,himm⟩) -
  .rcases hacc with⟨_,_,hM⟩|⟨b,c,len,cap,e1,_⟩
   .rw[Nat.zero_add]at hI_5
    repeat refine⟨rfl,?_⟩
    conv=>whnf
    refine .inl ⟨rfl,hle.lg.frz2.trans hl_5,?_⟩;have:U5.M=Mc':=hM;obtain⟨i5,m5,t5⟩:=U5;simp only at this;subst this;exact hI_5
   .cases e1
  .repeat refine⟨rfl,?_⟩
   conv=>whnf
   exact .inr ⟨rfl,X',Mc',hM',hE,λ x o hx=>himm x o (hle.imm x o hx)⟩
 .rcases hv with h|⟨rfl,X',Mc',hM,hE,himm⟩
  .exact⟨U',.refl _,.inl h⟩
  .exact⟨{ U' with M:=Mc' },Z4 (by rw[hM];exact sublist_append_right ..),.inr ⟨rfl,hE,himm⟩⟩
def SoV(S:TM.Sys prog T)(g:FuncId)(first capt:Array Value)(p:List Int->Bool)(l:List Int)(U₀:Qa T):Prop:=
 ∀(q:List Int)(a:Option Addr)(cap:Nat)(U:Qa T),q.Sublist l->(∃X I',(∀x o,U₀.I x=some o->I' x=some o)/\U=⟨I',X++U₀.M,U₀.tok⟩)->Z3 U.frz a q.length q->Qb S g (first.toList++[Value.slice a q.length cap]++capt.toList).toArray (λ v U'=>v=.bool (p q)/\U'=U) U
def Zjj{a:Option Addr}{l:List Int}(h:Qx U a l.length 1 l (λ x vs=>vs=Zz x)):Z3 U a l.length l:=by
 refine⟨rfl,λ i x hx=>?_⟩;obtain⟨ad,vs,e,hs,rfl,_,hr⟩:=h.2 i x hx;have h0:=hr 0 (.int .i64 x) rfl;obtain⟨bb,oo,ss⟩:=ad;cases hs;refine⟨_,e,rfl,?_⟩;rw[Qo,Qo,Nat.add_zero]at h0;rw[Qo];exact h0
set_option maxHeartbeats 1000000 in
def Qjl(l:List Int)(la:Option Addr)(lc:Nat)(hrows:Qx U.frz la l.length 1 l (λ x vs=>vs=Zz x))(hl:l.length<=1000)(most:Nat)(hm:most<=900)(g:FuncId)(first capt:Array Value)(hg:(prog.funcs[g]?.any λ fd=>fd.body.isSome&&fd.name != "runtime.NumGoroutine")=true)(p:List Int->Bool)
  (hso:SoV S g first capt p l U) :
  Qb S 37 #[.slice la l.length lc,.int .i64 most,.func (.func g) first capt] (λ v U'=>(∃v1,v=.tuple #[v1,.bool (Qbh l p 0 (most+1)).isSome]/\Qcu U'.frz v1 ((Qbh l p 0 (most+1)).getD []))/\U.le U') U:=by
 refine Qb.grown (R:=λ v U'=>∃v1,v=.tuple #[v1,.bool (Qbh l p 0 (most+1)).isSome]/\Qcu U' v1 ((Qbh l p 0 (most+1)).getD [])) (λ v U1 U2 hl⟨v1,e,h1⟩=>⟨v1,e,h1.lg hl⟩) (Qb.of (args:=[_,_,_]) Qsj Qd (by simp) ?_)
 conv=>whnf
 intro b5 U1 h_1 hb5;have hb5:Zd U1 b5 #[.func (.func g) first capt]:=hb5;refine⟨by unfold Zm;omega,?_⟩
 refine⟨Nat,λ i=>[(0,.slice la l.length lc),(5,.pointer (some ⟨b5,0,none⟩)),(11,.int .i64 ((most:Int)+1)),(12,.int .i64 i)],
  λ i U'=>U1.frz.lg U'.frz/\(∃X,U'.M=X++U.M)/\i<=most+1/\Qbh l p 0 (most+1)=Qbh l p i (most+1-i),λ i=>most+1-i,0,by trivial,⟨⟨λ _ _ h=>h,⟨[],rfl⟩,rfl⟩,⟨[],by rw[h_1.own];rfl⟩,by omega,rfl⟩,?_⟩
 rintro i f U2⟨hlg,⟨X,hX⟩,hi,hinv⟩;have hin:Zm ((i:Int)+1):=by unfold Zm;omega
 repeat refine⟨rfl,?_⟩
 conv=>whnf
 apply Qe<;>intro hc
 .have hlt:i<most+1:=by simp at hc;omega
  rw[show most+1-i=(most+1-(i+1))+1 by omega,Q53 l p i]at hinv
  conv=>whnf
  intro b9 hf9;refine⟨_,.refl _,?_⟩;have hlg9:U1.frz.lg (U2.put b9 (.cells #[.slice none 0 0] 22)).frz:=hlg;have hb5₂:Zd (U2.put b9 (.cells #[.slice none 0 0] 22)) b5 #[.func (.func g) first capt]:=hb5.imI hlg.imm
  let ps:=TM.parts l i
  let J:Nat->Qa T->Prop:=λ k U'=>U1.frz.lg U'.frz/\(∃v9,U'.M=.obj b9 (.cells #[v9] 22 (0,0))::(X++U.M))/\∀q∈ps.take k,p q=false
  let E:Qa T->Prop:=λ U'=>U1.frz.lg U'.frz/\∃v9 q,U'.M=.obj b9 (.cells #[v9] 22 (0,0))::(X++U.M)/\Qcu U'.frz v9 q/\ps.find? p=some q
  have hJ:∀k U1 U2,U1.le U2->J k U1->J k U2:=λ k s1 s2 hle⟨h1,⟨v9,hv⟩,h3⟩=>⟨h1.trans hle.lg.frz2,⟨v9,hle.own.trans hv⟩,h3⟩
  have htk:Qxo S 69 #[] #[.pointer (some ⟨b9,0,none⟩),.pointer (some ⟨b5,0,none⟩)] Zz 1 ps J E (U2.put b9 (.cells #[.slice none 0 0] 22)):=by
   intro k q qa qc s Xs Mc hq h0 hr hsp hM⟨hJ1,⟨v9,hJ2⟩,hJ3⟩;have hJ2:Mc=.obj b9 (.cells #[v9] 22 (0,0))::(X++U.M):=hJ2;subst hJ2;have hb5s:Zd s b5 #[.func (.func g) first capt]:=hb5₂.imI h0.imm;have hqi:=Zjj hr;have hqs:=(Qc6.1 (mem_of_getElem? hq)).1;refine Qb.of (args:=[_,_,_]) Q3v Qd (by simp) ?_;refine⟨rfl,Js (vs:=[.slice qa q.length qc]) Xs hM rfl (by simp[Value.single]) λ s1 hI1 ht1 hM1=>?_⟩;have hb5s1:Zd s1 b5 #[.func (.func g) first capt]:=hb5s.imI λ x o hx=>by rw[hI1];exact hx
   have hz:s.frz.lg s1.frz:=⟨λ x o hx=>by show s1.I x=_;rw[hI1];exact hx,⟨[],rfl⟩,ht1⟩
   have htok:s1.tok=U.tok:=by
    have e1:s.tok=U1.tok:=hJ1.tok;rw[ht1,e1,h_1.tok]
   refine⟨_,hb5s1.sees3 (o:=0) rfl,hg,(hso q qa qc s1 hqs ⟨Xs++(.obj b9 (.cells [.slice qa q.length qc].toArray 22 (0,0))::X),s1.I,λ x o hx=>by rw[hI1];exact hJ1.imm x o (h_1.imm x o hx),by
    obtain⟨i1,m1,t1⟩:=s1;simp only at hM1 htok;subst htok;rw[hM1];simp⟩ (hqi.lg hz)).mono ?_⟩
   rintro _ s'⟨rfl,hs'⟩-;obtain rfl:=hs'.symm;cases hpq:p q with
   |false=>
    repeat refine⟨rfl,?_⟩
    conv=>whnf
    refine .inl ⟨rfl,hz,_,hM1,⟨hJ1.trans hz,⟨_,rfl⟩,λ q' hq'=>?_⟩⟩;rw[Jt hq,mem_append]at hq';rcases hq' with hq'|hq'
    .exact hJ3 q' hq'
    .rw[mem_singleton.1 hq'];exact hpq
   |true=>
    repeat refine⟨rfl,?_⟩
    conv=>whnf
    refine .inr ⟨rfl,_,_,hM1,⟨hJ1.trans hz,_,q,rfl,⟨qa,qc,rfl,hqi.lg hz,hsp.2⟩,?_⟩,λ x o hx=>by rw[hI1];exact hx⟩;rw[find?_eq_some_iff_getElem];obtain⟨hk,hke⟩:=List.getElem?_eq_some_iff.1 hq;refine⟨hpq,k,hk,hke,λ j hj=>?_⟩;have:=hJ3 ps[j] (mem_take_iff_getElem.2 ⟨j,by omega,rfl⟩);simp[this]
  refine⟨Q3u.any,(Qwq (U:=U2.put b9 (.cells #[.slice none 0 0] 22)) l la lc (hrows.lg (h_1.lg.frz2.trans hlg9) λ _ _ h=>h) hl i (by omega) 69 #[] #[.pointer (some ⟨b9,0,none⟩),.pointer (some ⟨b5,0,none⟩)] Q3v.any hJ htk ⟨hlg9,⟨_,by show _::U2.M=_;rw[hX]⟩,by simp⟩).mono ?_⟩;rintro v U3 (⟨rfl,-,hlg_3,⟨v9,hM_3⟩,hno⟩|⟨rfl,⟨hlg_3,v9,q,hM_3,⟨qa,qc,rfl,hqi⟩,hfind⟩,-⟩) -
  .have hnone:ps.find? p=none:=by
    rw[find?_eq_none];intro q hq;rw[hno q (by rw[take_length];exact hq)];simp
   have hnone:(TM.parts l i).find? p=none:=hnone;rw[hnone]at hinv
   repeat refine⟨rfl,?_⟩
   refine⟨hin,?_⟩
   conv=>whnf
   exact⟨rfl,i+1,by trivial,⟨hlg_3,⟨_::X,hM_3⟩,by omega,hinv⟩,by show _-_<_-_;omega⟩
  .have hfind:(TM.parts l i).find? p=some q:=hfind;rw[hfind]at hinv;simp only at hinv
   repeat refine⟨rfl,?_⟩
   refine⟨_,Q7 [] hM_3 0 _ rfl,?_⟩
   repeat refine⟨rfl,?_⟩
   conv=>whnf
   rw[hinv];exact⟨⟨_,rfl,⟨qa,qc,rfl,hqi⟩⟩,⟨λ x o hx=>hlg_3.imm x o (h_1.imm x o hx),⟨_::X,hM_3⟩,hlg_3.tok.trans h_1.tok⟩⟩
 .have hge:i=most+1:=by simp at hc;omega
  subst hge;rw[Nat.sub_self,Qbh]at hinv
  repeat refine⟨rfl,?_⟩
  conv=>whnf
  rw[hinv];exact⟨⟨_,rfl,.nil⟩,⟨λ x o hx=>hlg.imm x o (h_1.imm x o hx),⟨X,hX⟩,hlg.tok.trans h_1.tok⟩⟩
end Go.Proofs
namespace Go.TM
variable{T:Type}{P:Program}{S:Sys P T}{U U':Qa T}
def Qh4(a b:Int×Int):Int:=if a=b then 0 else if a.1<b.1\/a.1=b.1/\a.2<b.2 then -1 else 1
def Qcp:List (Int×Int)->List (Int×Int)->Int
 |[],[]=>0
 |[],_::_=>-1
 |_::_,[]=>1
 |a::l,b::r=>if Qh4 a b≠0 then Qh4 a b else Qcp l r
structure Bk.Srt(b:Bk)(n:Nat):Prop where
 s:∀c∈b.cs,Qrs c.af
 l:∀c∈b.cs,c.af.length<=n
def Zfp{b:Int}:∀{l:List Int}{m:Int},m<b->Qb0 b (some m) l=0->(l.length:Int)<=b-1-m/\l.Pairwise (· < ·)/\∀x∈l,m<x
 |[],m,hm,_=>⟨by simp;omega,.nil,by simp⟩
 |n::l,m,hm,h=>by
  rw[Qf5]at h;split at h
  .rename_i hb;simp only[W1,Bool.and_eq_true,decide_eq_true_eq]at hb;simp only at h;split at h
   .cases h
   .obtain⟨h1,h2,h3⟩:=Zfp (l:=l) (m:=n) (by omega) h;refine⟨by rw[length_cons];omega,pairwise_cons.2 ⟨h3,h2⟩,λ x hx=>?_⟩;rcases mem_cons.1 hx with rfl|hx
    .omega
    .have:=h3 x hx;omega
  .cases h
def Zog{b:Int}{l:List Int}(hb:0<=b)(h:Qb0 b none l=0):(l.length:Int)<=b/\l.Pairwise (· < ·):=by
 cases l with
 |nil=>exact⟨by simpa using hb,.nil⟩
 |cons n l=>
  rw[Qf5]at h;split at h
  .rename_i hb';simp only[W1,Bool.and_eq_true,decide_eq_true_eq]at hb';obtain⟨h1,h2,h3⟩:=Zfp (l:=l) (m:=n) (by omega) h;exact⟨by rw[length_cons];omega,pairwise_cons.2 ⟨h3,h2⟩⟩
  .cases h
def Bk.Ok.asc{b:Bk}(h:b.Ok){c:Cs}(hc:c∈b.cs):c.af.length<=5/\c.af.Pairwise (· < ·):=by
 have hn:b.nc<=5:=by have:=h.nc;unfold Bk.nc;omega
 obtain⟨h1,h2⟩:=Zog (b:=b.nc) (by unfold Bk.nc;omega) (h.ri c hc);exact⟨by omega,h2⟩
def Bk.Ok.srt{b:Bk}(h:b.Ok):b.Srt 5:=⟨λ c hc=>(h.asc hc).2.imp λ h=>Int.le_of_lt h,λ c hc=>(h.asc hc).1⟩
def Bk.Ok.sml{b:Bk}(h:b.Ok):b.Sml:=by
 have h1:=h.nr;have h2:=h.nc;refine⟨by omega,by omega,λ c hc=>⟨?_,λ g hg=>?_,?_⟩⟩
 .have:=h.gl c hc;omega
 .have:=(h.gs c hc g hg).1;omega
 .have:=(h.asc hc).1;omega
def Bk.Srt.sty{b:Bk}{n:Nat}(h:b.Srt n)(s:Int×Int)(hs:s.1.toNat<b.cs.length):(b.sty s).Srt (n+1):=by
 have hc:b.cas s.1.toNat∈b.cs:=by
  simp only[Bk.cas,getD_eq_getElem?_getD,getElem?_eq_getElem hs,Option.getD_some];exact getElem_mem hs
 refine⟨λ c hcm=>?_,λ c hcm=>?_⟩
 .rcases mem_or_eq_of_mem_set hcm with h1|rfl
  .exact h.s c h1
  .exact Qvs _ _ (h.s _ hc)
 .rcases mem_or_eq_of_mem_set hcm with h1|rfl
  .have:=h.l c h1;omega
  .have:=h.l _ hc;show(Qcz _ _).length<=_;rw[(Qi1 _ _).length_eq];simp;omega
def Bk.sty_len(b:Bk)(s:Int×Int):(b.sty s).cs.length=b.cs.length:=by simp[Bk.sty]
def Bk.stys_snoc(b:Bk)(l:List (Int×Int))(s:Int×Int):b.stys (l++[s])=(b.stys l).sty s:=by simp[Bk.stys]
def Bk.stys_len(b:Bk)(l:List (Int×Int)):(b.stys l).cs.length=b.cs.length:=by
 induction l generalizing b with
 |nil=>rfl
 |cons s l ih=>exact(ih (b.sty s)).trans (b.sty_len s)
def Bk.stys_srt{b:Bk}{n:Nat}(h:b.Srt n):∀(l:List (Int×Int)),(∀s∈l,s.1.toNat<b.cs.length)->(b.stys l).Srt (n+l.length):=by
 intro l
 induction l generalizing b n with
 |nil=>exact λ _=>h
 |cons s l ih=>
  intro hl;have:=ih (h.sty s (hl s (by simp))) λ s' hs'=>by rw[b.sty_len];exact hl s' (by simp[hs'])
  rw[length_cons,show n+(l.length+1)=n+1+l.length by omega];exact this
end Go.TM
namespace Go.Proofs
open Go.TM
variable{T:Type}{S:TM.Sys prog T}{U:Qa T}
attribute [local irreducible] Qb Zh We
def Qjj(h:BH)(b:Bk)(hb:Zt U.frz h b)(hcs:b.cs.length<=1000):Qb S 38 #[h.v] (λ v U'=>J0 U'.frz v ((range b.cs.length).map λ(k:Nat)=>(k:Int))/\U.le U') U:=by
 refine Qb.ints (e:=3) (Qb.of (args:=[_]) Qsk Qd (by simp) ?_);have hcl:=hb.cs.1
 repeat refine⟨rfl,?_⟩
 conv=>whnf
 intro B U1 h_1 hB;have hB:Zd U1 B #[.slice h.ra h.rl h.rc,.slice h.ca h.cl h.cc]:=hB;refine⟨_,hB.sees3 (o:=1) rfl,Nat×Value,λ y=>[(3,y.2),(8,.int .i64 h.cl),(9,.int .i64 y.1)],λ y U'=>(∀x o,U.I x=some o->U'.I x=some o)/\U'.tok=U.tok/\Acc 3 1 y.2 (((range y.1).map λ(k:Nat)=>(k:Int)).map λ n=>.int .i64 n) U'.M U.M/\y.1<=h.cl,λ y=>h.cl-y.1,(0,.slice none 0 0),by trivial,⟨h_1.imm,h_1.tok,by rw[h_1.own];exact .nil,by omega⟩,?_⟩;rintro⟨i,v⟩f U2⟨hI,ht,hacc,hi⟩;simp only at hacc hi;obtain⟨sa,sl,sc,rfl,hsl,-⟩:=Acc.src (U:=U2) hacc;have hin:Zm ((i:Int)+1):=by unfold Zm;omega
 repeat refine⟨rfl,?_⟩
 conv=>whnf
 apply Qe<;>intro hc
 .have hlt:i<h.cl:=by simpa using hc
  conv=>whnf
  intro b14 hf14;refine Zk hf14 λ U3 h_3 hb14=>?_;have hb14:Zd U3 b14 #[.int .i64 i]:=hb14
  conv=>whnf
  refine Ws (v:=.slice sa sl sc) (cs:=((range i).map λ(k:Nat)=>(k:Int)).map λ n=>.int .i64 n) (new:=[.int .i64 (i:Int)]) (M₀:=U.M) Qay rfl rfl (by rw[h_3.own];exact hacc) (.inr ⟨_,rfl,hb14.reads (λ k v hv=>by simpa using hv)⟩) rfl (by simp[Value.single]) (by simp;omega) λ v' M' ha' _=>?_;have ha'':Acc 3 1 v' (((range (i+1)).map λ(k:Nat)=>(k:Int)).map λ n=>.int .i64 n) M' U.M:=by rw[range_succ,map_append,map_append];exact ha'
  obtain⟨ta,tl,tc,rfl,-,-⟩:=Acc.src (U:={ U3 with M:=M' }) ha'';refine⟨hin,?_⟩
  conv=>whnf
  exact⟨rfl,(i+1,.slice ta tl tc),by trivial,⟨λ x o h=>h_3.imm x o (hI x o h),h_3.tok.trans ht,ha'',by show i+1<=h.cl;omega⟩,by show _-_<_-_;omega⟩
 .have hge:i=b.cs.length:=by simp at hc;omega
  subst hge
  repeat refine⟨rfl,?_⟩
  conv=>whnf
  exact⟨hacc,hI,ht⟩
def Q4s:Qfc prog 78 (Zp8 prog 78):=.of (by kernel_rfl)
def Qrw(x y:Int×Int):Qb S 95 #[.agg #[.int .i64 x.1,.int .i64 x.2],.agg #[.int .i64 y.1,.int .i64 y.2]] (λ v U'=>v=.int .i64 (Qh4 x y)/\U'=U) U:=by
 obtain⟨a,b⟩:=x;obtain⟨c,d⟩:=y;refine Qb.pure' (Qb.of (args:=[_,_]) Q38 Qd (by simp) ?_)
 repeat refine⟨rfl,?_⟩
 conv=>whnf
 intro b2 U1 h_1 hb2;have hb2:Zd U1 b2 #[.int .i64 a,.int .i64 b]:=hb2
 conv=>whnf
 intro b3 U2 h_2 hb3;have hb3:Zd U2 b3 #[.int .i64 c,.int .i64 d]:=hb3;have hb2:=hb2.le h_2;have hle:=(h_1.trans h_2).lg;refine⟨_,⟨rfl,hb2.reads (λ k v hv=>by simpa using hv)⟩,?_⟩;refine⟨_,⟨rfl,hb3.reads (λ k v hv=>by simpa using hv)⟩,?_⟩
 conv=>whnf
 refine Zqu Q4s (vs:=[.int .i64 a,.int .i64 b]) (ws:=[.int .i64 c,.int .i64 d]) rfl rfl (by kernel_rfl) (by kernel_rfl) ?_
 have heq:Qdi [.int .i64 a,.int .i64 b] [.int .i64 c,.int .i64 d]=decide ((a,b)=(c,d)):=by
  simp[Qdi,eqv,Prod.mk.injEq,Bool.decide_and];rfl
 rw[heq];by_cases e:(a,b)=(c,d)
 .have hv:Qh4 (a,b) (c,d)=0:=by unfold Qh4;rw[if_pos e]
  rw[decide_eq_true e,hv]
  repeat refine⟨rfl,?_⟩
  conv=>whnf
  exact hle
 rw[decide_eq_false e];have hn:¬(a=c/\b=d):=λ⟨h1,h2⟩=>e (by rw[h1,h2]);refine⟨_,hb2.sees3 (o:=0) rfl,_,hb3.sees3 (o:=0) rfl,?_⟩
 repeat refine⟨rfl,?_⟩
 conv=>whnf
 apply Zc<;>intro hc
 .have h1:¬a<c:=by simpa using hc
  refine⟨_,hb2.sees3 (o:=0) rfl,_,hb3.sees3 (o:=0) rfl,?_⟩
  repeat refine⟨rfl,?_⟩
  conv=>whnf
  apply Zc<;>intro hc
  .have h2:a=c:=by simpa using hc
   refine⟨_,hb2.sees3 (o:=1) rfl,_,hb3.sees3 (o:=1) rfl,?_⟩
   repeat refine⟨rfl,?_⟩
   conv=>whnf
   apply Qe<;>intro hc
   .have h3:b<d:=by simpa using hc
    have hv:Qh4 (a,b) (c,d) = -1:=by unfold Qh4;rw[if_neg e,if_pos (.inr ⟨h2,h3⟩)]
    rw[hv]
    repeat refine⟨rfl,?_⟩
    conv=>whnf
    exact hle
   .have h3:¬b<d:=by simpa using hc
    have hv:Qh4 (a,b) (c,d)=1:=by unfold Qh4;rw[if_neg e,if_neg (by simp only;omega)]
    rw[hv]
    repeat refine⟨rfl,?_⟩
    conv=>whnf
    exact hle
  .have h2:a≠c:=by simpa using hc
   have hv:Qh4 (a,b) (c,d)=1:=by unfold Qh4;rw[if_neg e,if_neg (by simp only;omega)]
   rw[hv]
   repeat refine⟨rfl,?_⟩
   conv=>whnf
   exact hle
 .have h1:a<c:=by simpa using hc
  have hv:Qh4 (a,b) (c,d) = -1:=by unfold Qh4;rw[if_neg e,if_pos (.inl h1)]
  rw[hv]
  repeat refine⟨rfl,?_⟩
  conv=>whnf
  exact hle
end Go.Proofs
namespace Go.TM
variable{T:Type}{P:Program}{S:Sys P T}{U U':Qa T}
def Qa.sees.mem{a:Addr}{v:Value}(h:U.sees a v)(hI:∀x o,U.I x=some o->U'.I x=some o)(hM:∀r∈U.M,r∈U'.M):U'.sees a v:=
 ⟨h.1,h.2.imp (λ⟨c,t,fr,x,y⟩=>⟨c,t,fr,x.imp (hI _ _) (hM _),y⟩) λ⟨t,n,x⟩=>⟨t,n,hM _ x⟩⟩
def Z7.mem{a:Addr}{vs:List Value}(h:Z7 U a vs)(hI:∀x o,U.I x=some o->U'.I x=some o)(hM:∀r∈U.M,r∈U'.M):Z7 U' a vs:=λ i v hv=>(h i v hv).mem hI hM
def Qx.mem{a:Option Addr}{len n:Nat}{α:Type}{l:List α}{R:α->List Value->Prop}(h:Qx U a len n l R)(hI:∀x o,U.I x=some o->U'.I x=some o)(hM:∀r∈U.M,r∈U'.M):Qx U' a len n l R:=
 ⟨h.1,λ i x hx=>let ⟨ad,vs,e,s,r,hl,hr⟩:=h.2 i x hx;⟨ad,vs,e,s,r,hl,hr.mem hI hM⟩⟩
def Src.mem{a:Option Addr}{cs:List Value}(h:Src U a cs)(hI:∀x o,U.I x=some o->U'.I x=some o)(hM:∀r∈U.M,r∈U'.M):Src U' a cs:=h.imp id λ⟨ad,e,r⟩=>⟨ad,e,r.mem hI hM⟩
def Qa3.mem{h:BH}{b:Bk}{M₀:List Qv}(k:Qa3 U h b M₀):∀r∈M₀,r∈U.M:=by
 obtain⟨ps,A,-,-,-,h4⟩:=k.ex;intro r hr;rw[h4.mem_iff];simp[hr]
def Qa3.imI{h:BH}{b:Bk}{M₀:List Qv}(k:Qa3 U h b M₀)(hI:∀x o,U.I x=some o->U'.I x=some o)(ht:U'.tok=U.tok)(hM:U'.M.Perm U.M):Qa3 U' h b M₀:=
 have hl:U.frz.lg U'.frz:=⟨hI,⟨[],rfl⟩,ht⟩
 let ⟨ps,A,h1,h2,h3,h4⟩:=k.ex
 ⟨⟨ps,A,h1,λ p hp=>(h2 p hp).lg hl,h3,hM.trans h4⟩,k.rs.lg hl λ _ _ h=>h,k.rl,k.rn,k.rc⟩
def Qa3.pick{h:BH}{b:Bk}{o:Qv}{M₀:List Qv}(k:Qa3 U h b (o::M₀)):∃X Y,U.M=X++o::Y/\(∀(U':Qa T)o',(∀x q,U.I x=some q->U'.I x=some q)->U'.tok=U.tok->U'.M=X++o'::Y->Qa3 U' h b (o'::M₀))/\(X++Y).Sublist U.M/\Qa3 { U with M:=X++Y } h b M₀:=by
 obtain⟨X,Y,e⟩:=append_of_mem (k.mem o (by simp));obtain⟨ps,A,h1,h2,h3,h4⟩:=k.ex
 have hp:(X++Y).Perm (A++(ps.flatMap (·.2.F)++M₀)):=by
  have a1:(o::(X++Y)).Perm U.M:=by rw[e];exact perm_middle.symm
  have a2:(A++(ps.flatMap (·.2.F)++o::M₀)).Perm (o::(A++(ps.flatMap (·.2.F)++M₀))):=by
   rw[<- append_assoc,<- append_assoc];exact perm_middle
  exact(a1.trans (h4.trans a2)).cons_inv
 refine⟨X,Y,e,λ U' o' hI ht hM=>?_,?_,⟨⟨ps,A,h1,λ p hp=>(h2 p hp).lg ⟨λ _ _ h=>h,⟨[],rfl⟩,rfl⟩,h3,hp⟩,k.rs.lg ⟨λ _ _ h=>h,⟨[],rfl⟩,rfl⟩ λ _ _ h=>h,k.rl,k.rn,k.rc⟩⟩
 .have hl:U.frz.lg U'.frz:=⟨hI,⟨[],rfl⟩,ht⟩;refine⟨⟨ps,A,h1,λ p hp=>(h2 p hp).lg hl,h3,?_⟩,k.rs.lg hl λ _ _ h=>h,k.rl,k.rn,k.rc⟩;rw[hM];refine perm_middle.trans ((hp.cons o').trans ?_);rw[<- append_assoc,<- append_assoc];exact perm_middle.symm
 .rw[e];exact Sublist.append_left (sublist_cons_self _ _) _
def Zps(a b:Int×Int)(l r:List (Int×Int)):Qcp (a::l) (b::r)=if Qh4 a b≠0 then Qh4 a b else Qcp l r:=rfl
def Zpt(a:Int×Int)(l:List (Int×Int)):Qcp (a::l) []=1:=rfl
def Zpu(b:Int×Int)(r:List (Int×Int)):Qcp [] (b::r) = -1:=rfl
def Zpv:Qcp [] []=0:=rfl
def Bk.cas_mem{b:Bk}{k:Nat}(h:k<b.cs.length):b.cas k∈b.cs:=by
 simp only[Bk.cas,getD_eq_getElem?_getD,getElem?_eq_getElem h,Option.getD_some];exact getElem_mem h
end Go.TM
namespace Go.Proofs
open Go.TM
variable{T:Type}{S:TM.Sys prog T}{U:Qa T}
attribute [local irreducible] Qb Zh We
def Qz3(l r:List (Int×Int))(a a':Option Addr)(c c':Nat)(hl:Qx U a l.length 2 l (λ x vs=>vs=encII x))(hr:Qx U a' r.length 2 r (λ x vs=>vs=encII x))(h1:l.length<=1000)(h2:r.length<=1000) :
  Qb S 94 #[.slice a l.length c,.slice a' r.length c',.func (.func 95) #[] #[]] (λ v U'=>v=.int .i64 (Qcp l r)/\U'=U) U:=by
 refine Qb.pure' (Qb.of (args:=[_,_,_]) Q37 Qd (by simp) ?_)
 refine⟨Nat,λ i=>[(0,.slice a l.length c),(1,.slice a' r.length c'),(2,.func (.func 95) #[] #[]),(11,.slice a l.length c),(12,.int .i64 l.length),(13,.int .i64 i)],
  λ i U'=>U.lg U'/\i<=l.length/\i<=r.length/\Qcp l r=Qcp (l.drop i) (r.drop i),λ i=>l.length-i,0,by trivial,⟨(Qa.le.refl _).lg,by omega,by omega,rfl⟩,?_⟩
 rintro i f U1⟨hlg,hi,hir,hinv⟩;have hin:Zm ((i:Int)+1):=by unfold Zm;omega
 repeat refine⟨rfl,?_⟩
 conv=>whnf
 apply Qe<;>intro hc
 .have hlt:i<l.length:=by simpa using hc
  obtain⟨ad,x,vs,hx,rfl,hsp,rfl,-,hrd⟩:=(hl.lg hlg λ _ _ h=>h).at hlt;rw[Qbe hx]at hinv;refine⟨ad,i,⟨rfl,rfl,hlt⟩,_,⟨rfl,hrd⟩,?_⟩
  conv=>whnf
  intro b8 hf8;refine⟨_,.refl _,rfl,Zs (vs:=encII x) hf8 rfl (by simp[encII,Value.single]) λ U2 h_2 hb8=>?_⟩;have hlg_2:=hlg.trans h_2.lg
  repeat refine⟨rfl,?_⟩
  conv=>whnf
  apply Qe<;>intro hc
  .have hge:r.length<=i:=by simpa using hc
   rw[drop_eq_nil_of_le hge,Zpt]at hinv;rw[hinv]
   repeat refine⟨rfl,?_⟩
   conv=>whnf
   exact hlg_2
  have hlt2:i<r.length:=by simp at hc;omega
  obtain⟨ad2,y,vs,hy,rfl,hsp2,rfl,-,hrd2⟩:=(hr.lg hlg_2 λ _ _ h=>h).at hlt2;rw[Qbe hy,Zps]at hinv;refine⟨ad2,i,⟨rfl,rfl,hlt2⟩,_,⟨rfl,hrd2⟩,?_⟩
  conv=>whnf
  intro b9 hf9;refine⟨_,.refl _,rfl,Zs (vs:=encII y) hf9 rfl (by simp[encII,Value.single]) λ U3 h_3 hb9=>?_⟩;have hlg_3:=hlg_2.trans h_3.lg;have hb8:Zd U3 b8 (encII x).toArray:=hb8.le h_3;refine⟨_,⟨rfl,hb8.reads (λ k v hv=>by simpa using hv)⟩,?_⟩;refine⟨_,⟨rfl,hb9.reads (λ k v hv=>by simpa using hv)⟩,?_⟩;refine⟨Q38.any,(Qrw x y).go λ _=>?_⟩
  repeat refine⟨rfl,?_⟩
  conv=>whnf
  apply Qe<;>intro hc
  .have hne:Qh4 x y≠0:=by simpa using hc
   rw[if_pos hne]at hinv;rw[hinv]
   repeat refine⟨rfl,?_⟩
   conv=>whnf
   exact hlg_3
  .have hne:¬Qh4 x y≠0:=by simpa using hc
   rw[if_neg hne]at hinv
   repeat refine⟨rfl,?_⟩
   refine⟨hin,?_⟩
   conv=>whnf
   exact⟨rfl,i+1,by trivial,⟨hlg_3,by omega,by omega,hinv⟩,by show _-_<_-_;omega⟩
 .have hge:i=l.length:=by simp at hc;omega
  subst hge;rw[drop_length]at hinv
  repeat refine⟨rfl,?_⟩
  conv=>whnf
  apply Qe<;>intro hc
  .have hlt:l.length<r.length:=by simpa using hc
   have:r.drop l.length=r[l.length]::r.drop (l.length+1):=drop_eq_getElem_cons hlt;rw[this,Zpu]at hinv;rw[hinv]
   repeat refine⟨rfl,?_⟩
   conv=>whnf
   exact hlg
  .have hge:r.length<=l.length:=by simp at hc;omega
   rw[drop_eq_nil_of_le hge,Zpv]at hinv;rw[hinv]
   repeat refine⟨rfl,?_⟩
   conv=>whnf
   exact hlg
def Qte(h:BH)(b:Bk)(hb:Zt U.frz h b)(hs:b.Sml)(l:List (Int×Int))(a:Option Addr)(c:Nat)(hl:Qx U a l.length 2 l (λ x vs=>vs=encII x))(hlen:l.length<=6)(hsrt:b.Srt 5)(hin:∀s∈l,0<=s.1/\s.1.toNat<b.cs.length) :
  Qb S 90 #[h.v,.slice a l.length c] (λ v U'=>(∃h':BH,v=h'.v/\Qa3 U' h' (b.stys l) U.M)/\(∀x o,U.I x=some o->U'.I x=some o)/\U'.tok=U.tok) U:=by
 have main:Qb S 90 #[h.v,.slice a l.length c] (λ v U'=>(∃(h':BH)(o:Qv),v=h'.v/\Qa3 U' h' (b.stys l) (o::U.M))/\(∀x o,U.I x=some o->U'.I x=some o)/\U'.tok=U.tok) U:=by
  refine Qb.of (args:=[_,_]) Q36 Qd (by simp) ?_
  repeat refine⟨rfl,?_⟩
  conv=>whnf
  intro B U1 h_1 hB;have hB:Zd U1 B #[.slice h.ra h.rl h.rc,.slice h.ca h.cl h.cc]:=hB
  conv=>whnf
  intro b4 hf4;refine⟨_,.refl _,?_⟩;have hlp:=Z0 (U:=U1) b4 (.cells #[.slice none 0 0,.slice none 0 0] 90);refine⟨_,⟨rfl,(hB.lg hlp).reads (λ k v hv=>by simpa using hv)⟩,?_⟩;refine⟨Qxy.any,(Q4q (S:=S) (U:=U1.put b4 (.cells #[.slice none 0 0,.slice none 0 0] 90)) h b (hb.lg (h_1.lg.frz2.trans hlp.frz2)) hs).mono ?_⟩;rintro _ U2⟨⟨h',rfl,ho⟩,hI_2,ht_2⟩-;have hI2:∀x o,U.I x=some o->U2.I x=some o:=λ x o hx=>hI_2 x o (h_1.imm x o hx);have ht2:U2.tok=U.tok:=ht_2.trans h_1.tok
  have ho:Qa3 U2 h' b (.obj b4 (.cells [.slice none 0 0,.slice none 0 0].toArray 90 (0,0))::U.M):=by
   have e:(U1.put b4 (.cells #[.slice none 0 0,.slice none 0 0] 90)).M=.obj b4 (.cells [.slice none 0 0,.slice none 0 0].toArray 90 (0,0))::U.M:=by show _::U1.M=_;rw[h_1.own]
   rw[<- e];exact ho
  clear hlp hI_2 ht_2
  conv=>whnf
  intro b5 hf5;refine⟨_,.refl _,rfl,Zs (vs:=[.slice h'.ra h'.rl h'.rc,.slice h'.ca h'.cl h'.cc]) hf5 rfl (by simp[Value.single]) λ U3 h_3 hb5=>?_⟩;have hb5:Zd U3 b5 #[.slice h'.ra h'.rl h'.rc,.slice h'.ca h'.cl h'.cc]:=hb5
  refine⟨Nat,λ i=>[(1,.slice a l.length c),(4,.pointer (some ⟨b4,0,none⟩)),(5,.pointer (some ⟨b5,0,none⟩)),(10,.slice a l.length c),(11,.int .i64 l.length),(12,.int .i64 i)],
   λ i U'=>U3.frz.lg U'/\i<=l.length/\Qa3 U' h' (b.stys (l.take i)) (.obj b4 (.cells [.slice none 0 0,.slice none 0 0].toArray 90 (0,0))::U.M),λ i=>l.length-i,0,by trivial,⟨⟨λ _ _ h=>h,⟨_,(append_nil _).symm⟩,rfl⟩,by omega,ho.le h_3⟩,?_⟩
  rintro i f U4⟨hlg,hi,ho⟩;have hinr:Zm ((i:Int)+1):=by unfold Zm;omega
  have hI4:∀x o,U.I x=some o->U4.I x=some o:=λ x o hx=>hlg.imm x o (h_3.imm x o (hI2 x o hx))
  repeat refine⟨rfl,?_⟩
  conv=>whnf
  apply Qe<;>intro hc
  .have hlt:i<l.length:=by simpa using hc
   obtain⟨ad,x,vs,hx,rfl,hsp,rfl,-,hrd⟩:=(hl.mem hI4 λ r hr=>ho.mem r (mem_cons_of_mem _ hr)).at hlt;obtain⟨hx0,hxl⟩:=hin x (mem_of_getElem? hx);refine⟨ad,i,⟨rfl,rfl,hlt⟩,_,⟨rfl,hrd⟩,?_⟩
   conv=>whnf
   intro b7 hf7;refine⟨_,.refl _,rfl,Zs (vs:=encII x) hf7 rfl (by simp[encII,Value.single]) λ U5 h_5 hb7=>?_⟩;have hb5₅:Zd U5 b5 #[.slice h'.ra h'.rl h'.rc,.slice h'.ca h'.cl h'.cc]:=hb5.imI λ x o hx=>h_5.imm x o (hlg.imm x o hx);refine⟨_,⟨rfl,hb5₅.reads (λ k v hv=>by simpa using hv)⟩,?_⟩;refine⟨_,⟨rfl,hb7.reads (λ k v hv=>by simpa using hv)⟩,?_⟩;have hsr:=Bk.stys_srt hsrt (l.take i) λ s hs=>(hin s (mem_of_mem_take hs)).2;have hmem:=Bk.cas_mem (b:=b.stys (l.take i)) (k:=x.1.toNat) (by rw[Bk.stys_len];exact hxl);have hll:=hsr.l _ hmem;have hx1:((x.1.toNat:Nat):Int)=x.1:=by omega
   have hst:=Q0n (S:=S) (U:=U5) h' (b.stys (l.take i)) _ (ho.le h_5) x.1.toNat x.2 (by rw[Bk.stys_len];exact hxl) (hsr.s _ hmem) (by rw[length_take]at hll;omega);rw[hx1]at hst;refine⟨Qxz.any,hst.mono ?_⟩;rintro v U6⟨ho6,hI_6,ht_6⟩-;have hlg_6:U3.frz.lg U6:=⟨λ x o hx=>hI_6 x o (h_5.imm x o (hlg.imm x o hx)),⟨_,(append_nil _).symm⟩,ht_6.trans (h_5.tok.trans hlg.tok)⟩;refine⟨hinr,?_⟩
   conv=>whnf
   exact⟨rfl,i+1,by trivial,⟨hlg_6,by omega,by rw[Jt hx,Bk.stys_snoc];exact ho6⟩,by show _-_<_-_;omega⟩
  .have hge:i=l.length:=by simp at hc;omega
   subst hge;rw[take_length]at ho;have hb5₄:Zd U4 b5 #[.slice h'.ra h'.rl h'.rc,.slice h'.ca h'.cl h'.cc]:=hb5.imI hlg.imm;obtain⟨X,Y,hM,hset,-,-⟩:=ho.pick;refine⟨_,⟨rfl,hb5₄.reads (λ k v hv=>by simpa using hv)⟩,?_⟩;refine⟨rfl,Js (vs:=[.slice h'.ra h'.rl h'.rc,.slice h'.ca h'.cl h'.cc]) X hM rfl (by simp[Value.single]) λ U5 hI_5 ht_5 hM_5=>?_⟩;refine⟨_,⟨rfl,Q7 X hM_5⟩,⟨h',_,rfl,hset U5 _ (λ x q hx=>by rw[hI_5];exact hx) ht_5 hM_5⟩,λ x o hx=>by rw[hI_5];exact hI4 x o hx,?_⟩;rw[ht_5];exact hlg.tok.trans (h_3.tok.trans ht2)
 refine main.post λ v U'⟨⟨h',o,hv,ho⟩,hI,ht⟩=>?_;obtain⟨X,Y,-,-,hsub,ho'⟩:=ho.pick;exact⟨_,Z4 hsub,⟨h',hv,ho'⟩,hI,ht⟩
end Go.Proofs
namespace Go.TM
variable{T:Type}{P:Program}{S:Sys P T}{U U':Qa T}
def Bk.canI(b:Bk)(i m:Nat):List (Int×Int):=((range m).filter λ k=>k != i&&!(b.cas i).af.contains (k:Int)).map λ(k:Nat)=>((i:Int),(k:Int))
def Bk.cansTo(b:Bk)(i:Nat):List (Int×Int):=(range i).flatMap λ i=>b.canI i b.cs.length
def Bk.cansTo_all(b:Bk):b.cansTo b.cs.length=b.cans:=rfl
def Bk.cansTo_succ(b:Bk)(i:Nat):b.cansTo (i+1)=b.cansTo i++b.canI i b.cs.length:=by simp[Bk.cansTo,range_succ]
def Bk.canI_succ(b:Bk)(i m:Nat):b.canI i (m+1)=b.canI i m++(if(m != i&&!(b.cas i).af.contains (m:Int))=true then[((i:Int),(m:Int))]else[]):=by
 unfold Bk.canI;rw[range_succ,filter_append,map_append];congr 1;by_cases h:(m != i&&!(b.cas i).af.contains (m:Int))=true
 .rw[if_pos h,show List.filter (λ k=>k != i&&!(b.cas i).af.contains ((k:Nat):Int)) [m]=[m] from filter_cons_of_pos (p:=λ k=>k != i&&!(b.cas i).af.contains ((k:Nat):Int)) h];rfl
 .rw[if_neg h,show List.filter (λ k=>k != i&&!(b.cas i).af.contains ((k:Nat):Int)) [m]=[] from filter_cons_of_neg (p:=λ k=>k != i&&!(b.cas i).af.contains ((k:Nat):Int)) h];rfl
def Bk.canI_len(b:Bk)(i m:Nat):(b.canI i m).length<=m:=by
 unfold Bk.canI;rw[length_map];exact Nat.le_trans (length_filter_le _ _) (by simp)
def Bk.cansTo_len(b:Bk):∀i,(b.cansTo i).length<=i*b.cs.length
 |0=>by simp[Bk.cansTo]
 |i+1=>by
  rw[Bk.cansTo_succ,length_append,Nat.succ_mul];have:=b.cansTo_len i;have:=b.canI_len i b.cs.length;omega
def Bk.cas_at{b:Bk}{i:Nat}{c:Cs}(h:b.cs[i]?=some c):b.cas i=c:=by simp[Bk.cas,getD_eq_getElem?_getD,h]
end Go.TM
namespace Go.Proofs
open Go.TM
variable{T:Type}{S:TM.Sys prog T}{U:Qa T}
attribute [local irreducible] Qb Zh We
def Q20(h:BH)(b:Bk)(hb:Zt U.frz h b)(hcs:b.cs.length<=5):Qb S 85 #[h.v] (λ v U'=>(∃a c,v=.slice a b.cans.length c/\Qx U'.frz a b.cans.length 2 b.cans (λ x vs=>vs=encII x)/\b.cans.length<=c/\∀ad,a=some ad->ad.spot=none)/\U.le U') U:=by
 have hcl:=hb.cs.1
 have main:Qb S 85 #[h.v] (λ v U'=>Acc 78 2 v (b.cans.flatMap encII) U'.M U.M/\(∀x o,U.I x=some o->U'.I x=some o)/\U'.tok=U.tok) U:=by
  refine Qb.of (args:=[_]) Q33 Qd (by simp) ?_
  repeat refine⟨rfl,?_⟩
  conv=>whnf
  intro B U1 h_1 hB;have hB:Zd U1 B #[.slice h.ra h.rl h.rc,.slice h.ca h.cl h.cc]:=hB;refine⟨_,hB.sees3 (o:=1) rfl,Nat×Value,λ y=>[(1,.pointer (some ⟨B,0,none⟩)),(3,y.2),(9,.slice h.ca h.cl h.cc),(10,.int .i64 h.cl),(11,.int .i64 y.1)],λ y U'=>U1.frz.lg U'/\Acc 78 2 y.2 ((b.cansTo y.1).flatMap encII) U'.M U.M/\y.1<=h.cl,λ y=>h.cl-y.1,(0,.slice none 0 0),by trivial,⟨⟨λ _ _ h=>h,⟨_,(append_nil _).symm⟩,rfl⟩,by rw[h_1.own];exact .nil,by omega⟩,?_⟩;rintro⟨i,v⟩f U2⟨hlg,hacc,hi⟩;simp only at hacc hi;obtain⟨sa,sl,sc,rfl,hsl,-⟩:=Acc.src (U:=U2) hacc;have hin:Zm ((i:Int)+1):=by unfold Zm;omega
  have hf_2:U.frz.lg U2.frz:=h_1.lg.frz2.trans hlg.frz2
  repeat refine⟨rfl,?_⟩
  conv=>whnf
  apply Qe<;>intro hc
  .have hlt:i<h.cl:=by simpa using hc
   obtain⟨ad,c,ga,gl,gc,aa,al,ac,hx,hea,hspa,hrd,-,-,ha,hal,hmem⟩:=(hb.lg hf_2).case hlt;have hcas:=Bk.cas_at hx;refine⟨ad,i,⟨hea,rfl,hlt⟩,_,⟨rfl,hrd.lg Qq⟩,?_⟩
   conv=>whnf
   intro b5 hf5;refine⟨_,.refl _,rfl,Zs (vs:=[.string c.nm,.int .i64 c.ag,.slice ga gl gc,.slice aa al ac]) hf5 rfl (by simp[Value.single]) λ U3 h_3 hb5=>?_⟩;have hlg_3:=hlg.trans h_3.lg;refine⟨_,(hB.imI hlg_3.imm).sees3 (o:=1) rfl,Nat×Value,λ y=>[(1,.pointer (some ⟨B,0,none⟩)),(3,y.2),(4,.int .i64 i),(5,.pointer (some ⟨b5,0,none⟩)),(9,.slice h.ca h.cl h.cc),(10,.int .i64 h.cl),(11,.int .i64 i),(19,.int .i64 h.cl),(20,.int .i64 y.1)],λ y U'=>U3.frz.lg U'/\Acc 78 2 y.2 ((b.cansTo i++b.canI i y.1).flatMap encII) U'.M U.M/\y.1<=h.cl,λ y=>h.cl-y.1,(0,.slice sa sl sc),by trivial,⟨⟨λ _ _ h=>h,⟨_,(append_nil _).symm⟩,rfl⟩,by rw[h_3.own];simpa[Bk.canI]using hacc,by omega⟩,?_⟩;rintro⟨k,v⟩f U4⟨hlg_4,hacc,hk⟩;simp only at hacc hk;obtain⟨ua,ul,uc,rfl,hul,-⟩:=Acc.src (U:=U4) hacc;have hink:Zm ((k:Int)+1):=by unfold Zm;omega
   have hsucc:=b.canI_succ i k;rw[hcas]at hsucc;have hl1:=b.cansTo_len i;have hl2:=b.canI_len i k;have hl3:i*b.cs.length<=5*5:=Nat.mul_le_mul (by omega) hcs;have hl13:U1.frz.lg U4:=⟨λ x o hx=>hlg_4.imm x o (hlg_3.imm x o hx),⟨_,(append_nil _).symm⟩,hlg_4.tok.trans hlg_3.tok⟩
   repeat refine⟨rfl,?_⟩
   conv=>whnf
   apply Qe<;>intro hc
   .have hkt:k<h.cl:=by simpa using hc
    repeat refine⟨rfl,?_⟩
    conv=>whnf
    apply Zc<;>intro hc
    .have hne:(k != i)=true:=by simp at hc ⊢;omega
     refine⟨_,(hb5.imI hlg_4.imm).sees3 (o:=3) rfl,Qkt.any,(Qbt aa al ac c.af ((ha.lg (h_3.lg.frz2.trans hlg_4.frz2)).lg Qq) hal (k:Int)).go λ _=>?_⟩;rw[hne,Bool.true_and]at hsucc;cases hct:c.af.contains (k:Int)with
     |true=>
      rw[hct]at hsucc
      repeat refine⟨rfl,?_⟩
      refine⟨hink,?_⟩
      conv=>whnf
      exact⟨rfl,(k+1,.slice ua ul uc),by trivial,⟨hlg_4,by rw[hsucc];simpa using hacc,by show k+1<=h.cl;omega⟩,by show _-_<_-_;omega⟩
     |false=>
      rw[hct]at hsucc
      conv=>whnf
      intro b37 hf37;refine Zk hf37 λ U5 h_5 hb37=>?_;have hb37:Zd U5 b37 (encII ((i:Int),(k:Int))).toArray:=hb37
      conv=>whnf
      refine Ws (v:=.slice ua ul uc) (cs:=(b.cansTo i++b.canI i k).flatMap encII) (new:=encII ((i:Int),(k:Int))) (M₀:=U.M) Qiu rfl rfl (by rw[h_5.own];exact hacc) (.inr ⟨_,rfl,hb37.reads (λ k v hv=>by simpa using hv)⟩) rfl (by simp[encII,Value.single]) (by
       rw[Q0 (f:=encII) (n:=2) (λ _=>rfl)];simp[encII];omega) λ v' M' ha' _=>?_
      have ha'':Acc 78 2 v' ((b.cansTo i++b.canI i (k+1)).flatMap encII) M' U.M:=by
       rw[hsucc];simpa using ha'
      obtain⟨ta,tl,tc,rfl,-,-⟩:=Acc.src (U:={ U5 with M:=M' }) ha'';refine⟨hink,?_⟩
      conv=>whnf
      exact⟨rfl,(k+1,.slice ta tl tc),by trivial,⟨⟨λ x o hx=>h_5.imm x o (hlg_4.imm x o hx),⟨_,(append_nil _).symm⟩,h_5.tok.trans hlg_4.tok⟩,ha'',by show k+1<=h.cl;omega⟩,by show _-_<_-_;omega⟩
    .have hne:(k != i)=false:=by simp at hc ⊢;omega
     rw[hne,Bool.false_and]at hsucc
     repeat refine⟨rfl,?_⟩
     refine⟨hink,?_⟩
     conv=>whnf
     exact⟨rfl,(k+1,.slice ua ul uc),by trivial,⟨hlg_4,by rw[hsucc];simpa using hacc,by show k+1<=h.cl;omega⟩,by show _-_<_-_;omega⟩
   .have hge:k=b.cs.length:=by simp at hc;omega
    subst hge;rw[<- Bk.cansTo_succ]at hacc;refine⟨hin,?_⟩
    conv=>whnf
    exact⟨rfl,(i+1,.slice ua ul uc),by trivial,⟨hl13,hacc,by show i+1<=h.cl;omega⟩,by show _-_<_-_;omega⟩
  .have hge:i=b.cs.length:=by simp at hc;omega
   subst hge;rw[Bk.cansTo_all]at hacc
   repeat refine⟨rfl,?_⟩
   conv=>whnf
   exact⟨hacc,λ x o hx=>hlg.imm x o (h_1.imm x o hx),hlg.tok.trans h_1.tok⟩
 refine main.sep λ v U' hs⟨ha,hI,ht⟩=>?_
 have hcap:∀a l c,v=.slice a l c->l<=c:=λ a l c e=>by
  rcases ha with⟨e1,_,_⟩|⟨b',c',len',cap',e1,_,g2,_⟩
  .rw[e1]at e;cases e;exact Nat.le_refl _
  .rw[e1]at e;cases e;exact g2
 obtain⟨U'',k1,k2,a,len,cap,rfl,hl,hsrc,hsp,_⟩:=ha.freeze hs hI ht;have hlen:b.cans.length=len:=by have e:=(Q0 (f:=encII) (n:=2) (λ _=>rfl) b.cans).symm.trans hl;omega
 subst hlen;exact⟨U'',k1,⟨a,cap,rfl,Qb1 (enc:=encII) (n:=2) (λ _=>rfl) hsrc hsp (by decide),hcap _ _ _ rfl,hsp⟩,k2⟩
end Go.Proofs
namespace Go.TM
variable{T:Type}{P:Program}{S:Sys P T}{U U':Qa T}
def J2{b:Nat}{e:TypeId}{vs:List Value}(h:Qv.obj b (.cells vs.toArray e (0,0))∈U.M):Z7 U ⟨b,0,none⟩ vs:=by
 obtain⟨X,Y,hM⟩:=append_of_mem h;exact Q7 X hM
def Q1e{M L₁ L₂:List Qv}{r:Qv}(h:M.Perm (L₁++r::L₂)):∃X Y,M=X++r::Y/\(X++Y).Perm (L₁++L₂):=by
 obtain⟨X,Y,e⟩:=append_of_mem (h.mem_iff.2 (by simp):r∈M);refine⟨X,Y,e,?_⟩;have a1:(r::(X++Y)).Perm M:=by rw[e];exact perm_middle.symm
 exact(a1.trans (h.trans perm_middle)).cons_inv
def Zd8{X Y L₁ L₂:List Qv}(h:(X++Y).Perm (L₁++L₂))(r:Qv):(X++r::Y).Perm (L₁++r::L₂):=perm_middle.trans ((h.cons r).trans perm_middle.symm)
def Zt2{b i:Nat}{e:TypeId}{c:Array Value}{v:Value}{L₁ L₂:List Qv}{Q:Qa T->Prop}(hM:U.M.Perm (L₁++.obj b (.cells c e (0,0))::L₂))(hi:i<c.size)(hs:v.single=true)
  (h:∀U1:Qa T,U1.I=U.I->U1.tok=U.tok->U1.M=L₁++.obj b (.cells (c.setIfInBounds i v) e (0,0))::L₂->Q U1):StV ((Addr.mk b 0 none).add i) [v] 0 (λ U'=>∃U1,Qw U' U1/\Q U1) U:=by
 obtain⟨X,Y,e1,hp⟩:=Q1e hM;refine StV.mono (K:=λ U'=>∃U1,Qw U' U1/\∃U2,Qw U1 U2/\Q U2) (λ U'⟨U1,h1,U2,h2,h3⟩=>⟨U2,h1.trans h2,h3⟩) _ _ _ (Qbk X e1 hi hs λ U1 hI ht hM_1=>?_);exact⟨{ U1 with M:=L₁++.obj b (.cells (c.setIfInBounds i v) e (0,0))::L₂ },Qaa (by rw[hM_1];exact Zd8 hp _),h _ hI ht rfl⟩
def Q1q{b:Nat}{e:TypeId}{c:Array Value}{vs:List Value}{L₁ L₂:List Qv}{Q:Qa T->Prop}(hM:U.M.Perm (L₁++.obj b (.cells c e (0,0))::L₂))(hsz:c.size=vs.length)(hs:∀v∈vs,v.single=true)
  (h:∀U1:Qa T,U1.I=U.I->U1.tok=U.tok->U1.M=L₁++.obj b (.cells vs.toArray e (0,0))::L₂->Q U1):StV ⟨b,0,none⟩ vs 0 (λ U'=>∃U1,Qw U' U1/\Q U1) U:=by
 obtain⟨X,Y,e1,hp⟩:=Q1e hM;refine StV.mono (K:=λ U'=>∃U1,Qw U' U1/\∃U2,Qw U1 U2/\Q U2) (λ U'⟨U1,h1,U2,h2,h3⟩=>⟨U2,h1.trans h2,h3⟩) _ _ _ (Js X e1 hsz hs λ U1 hI ht hM_1=>?_);exact⟨{ U1 with M:=L₁++.obj b (.cells vs.toArray e (0,0))::L₂ },Qaa (by rw[hM_1];exact Zd8 hp _),h _ hI ht rfl⟩
def Zsx{b:Nat}{o:Obj}{M L₁ L₂:List Qv}(h:M.Perm (L₁++.obj b o::L₂)):∃M':Obj->List Qv,∀o',J4 b o' o M (M' o')/\(M' o').Perm (L₁++.obj b o'::L₂):=by
 obtain⟨X,Y,e,hp⟩:=Q1e h;exact⟨λ o'=>X++.obj b o'::Y,λ o'=>⟨by rw[e];exact Qdw .here X,Zd8 hp _⟩⟩
def Zd9{b:Nat}{c:Array Value}{t:TypeId}{M' M₀:List Qv}{Q:Qa T->Prop}(hf:U.free b)(hp:U.M.Perm (M'++M₀))(h:∀U1:Qa T,(∀x o,U.I x=some o->U1.I x=some o)->U1.tok=U.tok->U1.M=M'->Zd U1 b c->Q U1):∃U1,Qw (U.put b (.cells c t)) U1/\Q U1:=
 ⟨_,(Wf (b:=b) (M':=U.M) (Perm.refl _)).trans (Qzm (M':=M') ⟨M₀,hp⟩),h _ (Qor (o:=.cells c t) hf).imm rfl rfl Zd.new⟩
def Qf1(L:List Nat):List Value:=L.map λ n=>.int .i64 (n:Nat)
def Q6a(L:List Nat):(Qf1 L).length=L.length:=by simp[Qf1]
def Zfn{L:List Nat}{i:Nat}(h:i<L.length):(Qf1 L)[i]?=some (.int .i64 (L.getD i 0:Nat)):=by
 simp[Qf1,getD_eq_getElem?_getD,getElem?_eq_getElem h]
def Q6b(L:List Nat)(i v:Nat):(Qf1 L).toArray.setIfInBounds i (.int .i64 (v:Nat))=(Qf1 (L.set i v)).toArray:=by
 simp[Qf1,map_set]
def Zjc(n:Nat):replicate n (Value.int .i64 0)=Qf1 (replicate n 0):=by simp[Qf1]
abbrev Qbg:Int->Value:=λ k=>.int .i64 k
def Qg5(m:Nat)(ky:Nat->Int)(vl:Nat->Value):List (Int×Value):=(range m).map λ p=>(ky p,vl p)
def Q6u(m:Nat)(ky:Nat->Int)(vl:Nat->Value):(Qg5 m ky vl).length=m:=by simp[Qg5]
def Qzr(m:Nat)(ky:Nat->Int)(vl:Nat->Value):Qg5 (m+1) ky vl=Qg5 m ky vl++[(ky m,vl m)]:=by simp[Qg5,range_succ]
def Q1s{m p:Nat}{ky:Nat->Int}{vl:Nat->Value}(h:p<m):(Qg5 m ky vl)[p]?=some (ky p,vl p):=by simp[Qg5,h]
def Zek{m:Nat}{ky ky':Nat->Int}{vl vl':Nat->Value}(h:∀p,p<m->ky p=ky' p/\vl p=vl' p):Qg5 m ky vl=Qg5 m ky' vl':=
 map_congr_left λ p hp=>by obtain⟨h1,h2⟩:=h p (by simpa using hp);rw[h1,h2]
def Zfh{κ:Type}[DecidableEq κ]{k:κ}{v:Value}:∀{l:List (κ×Value)}(i:Nat),l.Pairwise (λ a b=>a.1≠b.1)->(k,v)∈l->(lkI k l i).map (·.2)=some v
 |[],_,_,h=>by cases h
 |p::l,i,hp,h=>by
  obtain⟨h1,h2⟩:=pairwise_cons.1 hp;simp only[lkI];rcases mem_cons.1 h with e|h
  .subst e;simp
  .rw[if_neg λ e=>h1 _ h e.symm];exact Zfh (i+1) h2 h
def Zfi{κ:Type}[DecidableEq κ]{k:κ}:∀{l:List (κ×Value)}(i:Nat),(∀p∈l,p.1≠k)->lkI k l i=none
 |[],_,_=>rfl
 |p::l,i,h=>by
  simp only[lkI];rw[if_neg λ e=>h p (by simp) e.symm];exact Zfi (i+1) λ q hq=>h q (by simp[hq])
def Zfl{m p:Nat}{ky:Nat->Int}{vl:Nat->Value}(h:p<m)(hi:∀q r,q<m->r<m->ky q=ky r->q=r):lk (ky p) (Qg5 m ky vl)=some (vl p):=by
 refine Zfh 0 ?_ (mem_of_getElem? (Q1s h));unfold Qg5;rw[pairwise_map];refine Pairwise.imp_of_mem (R:=λ a b=>a≠b) (λ{a b}ha hb hne e=>hne (hi a b (by simpa using ha) (by simpa using hb) e)) nodup_range
def Qgj{m:Nat}{k:Int}{ky:Nat->Int}{vl:Nat->Value}(h:∀q,q<m->ky q≠k):lk k (Qg5 m ky vl)=none/\∀v,ups k v (Qg5 m ky vl)=Qg5 m ky vl++[(k,v)]:=by
 have:lkI k (Qg5 m ky vl) 0=none:=Zfi 0 λ p hp=>by
  unfold Qg5 at hp;obtain⟨q,hq,rfl⟩:=mem_map.1 hp;exact h q (by simpa using hq)
 exact⟨by unfold lk;rw[this];rfl,λ v=>Qvv this⟩
end Go.TM
namespace Go.Proofs
open Go.TM
def Qhp{T:Type}:Qjx T prog 3 Qbg:=by
 have hu:prog.underlying 3=some (.int .i64):=by kernel_rfl
 exact .simple hu rfl (λ k k'=>by simp[Instr.sameNow];rfl) (λ k=>by simp[Instr.sameBits])
def Qiw:prog.underlying 144=some (.map 3 3):=by kernel_rfl
def Qok:prog.underlying 127=some (.map 3 39):=by kernel_rfl
def Zm3:Qdy prog 39=some (.int .i64 0):=by kernel_rfl
end Go.Proofs
namespace Go.TM
variable{T:Type}{U:Qa T}
def Qmm{a:Option Addr}{l:List Int}(h:Z3 U a l.length l):Qx U a l.length 1 l (λ x vs=>vs=[.int .i64 x]):=by
 refine⟨rfl,λ i x hx=>?_⟩;obtain⟨ad,e,hs,hv⟩:=h.2 i x hx;refine⟨ad,_,e,hs,rfl,rfl,λ k v hk=>?_⟩;cases k with
 |zero=>
  simp at hk;subst hk;obtain⟨bb,oo,ss⟩:=ad;cases hs;rw[Qo]at hv;rw[Qo,Qo,Nat.add_zero];exact hv
 |succ k=>simp at hk
end Go.TM
namespace Go.TM
variable{T:Type}{P:Program}{S:Sys P T}{U U':Qa T}
def Bk.setA(b:Bk)(q:Nat)(l:List Int):Bk:=⟨b.rs,b.cs.set q { b.cas q with af:=l }⟩
structure Ztd(U:Qa T)(h:BH)(b:Bk)(M₀:List Qv)(q:Nat)(a0:Option Addr)(l0 c0:Nat)(kF:List Qv)(cb:Nat)(cc:Array Value)(rest:List Qv):Prop where
 ca:h.ca=some ⟨cb,0,none⟩
 lt:q<h.cl
 sz:q*4+3<cc.size
 at3:cc.toList[q*4+3]?=some (.slice a0 l0 c0)
 acc:Jx 3 1 (.slice a0 l0 c0) ((b.cas q).af.map λ n=>.int .i64 n) kF
 len:(b.cas q).af.length<=1000
 pm:U.M.Perm (kF++(.obj cb (.cells cc.toList.toArray 48 (0,0))::(rest++M₀)))
 back:∀(U':Qa T)(v':Value)(F':List Qv)(l':List Int)(M0':List Qv),U.frz.lg U'.frz->Jx 3 1 v' (l'.map λ n=>.int .i64 n) F'->l'.length<=1000->U'.M.Perm (F'++(.obj cb (.cells (cc.setIfInBounds (q*4+3) v') 48 (0,0))::(rest++M0')))->Qa3 U' h (b.setA q l') M0'
def Qa3.openC{h:BH}{b:Bk}{M₀:List Qv}(ho:Qa3 U h b M₀){q:Nat}(hq:q<b.cs.length):∃a0 l0 c0 kF cb cc rest,Ztd U h b M₀ q a0 l0 c0 kF cb cc rest:=by
 obtain⟨ps,A,hps,hok,hacc,hM⟩:=ho.ex;have hkl:q<ps.length:=by rw[<- hps,length_map]at hq;exact hq
 obtain⟨p,hp⟩:∃p,ps[q]?=some p:=⟨_,getElem?_eq_getElem hkl⟩;obtain⟨X,Y,rfl,hX,hset⟩:=Q6r hp;obtain⟨c,kga,kgl,kgc,kv,kF⟩:=p
 have hcas:b.cas q=c:=by
  have:=congrArg (λ l=>l[q]?) hps;simp only[getElem?_map,hp]at this;simp[Bk.cas,getD_eq_getElem?_getD,<- this]
 have hpk:=hok _ (mem_of_getElem? hp);obtain⟨a0,l0,c0,e0,hl0⟩:=hpk.af.src;obtain rfl:kv=.slice a0 l0 c0:=e0;have hF:Jx 3 1 (.slice a0 l0 c0) (c.af.map λ n=>.int .i64 n) kF:=hpk.af;obtain⟨cb,cc,clen,ccap,ecs,hcl1,hcl2,hcl3,rfl,hcc⟩:=hacc.blk (by simp[Qcq]);have hcl:h.cl=clen:=by have:=Value.slice.inj ecs;exact this.2.1
 have hca:h.ca=some ⟨cb,0,none⟩:=by have:=Value.slice.inj ecs;exact this.1
 have hcap:h.cc=ccap:=by have:=Value.slice.inj ecs;exact this.2.2
 have hlen4:=hcl1;rw[Q0 Z2]at hlen4;have hclk:q<h.cl:=by omega
 have hsz:q*4+3<cc.size:=by rw[hcl3];omega
 refine⟨a0,l0,c0,kF,cb,cc,X.flatMap (·.2.F)++Y.flatMap (·.2.F),⟨hca,hclk,hsz,?_,by rw[hcas];exact hF,by rw[hcas];exact hpk.al,?_,?_⟩⟩
 .rw[Array.getElem?_toList];exact hcc _ _ (Qdl Z2 hp (by omega:3<4))
 .refine hM.trans ?_;rw[flatMap_append,flatMap_cons];show Perm (.obj cb (.cells cc 48 (0,0))::(X.flatMap (·.2.F)++(kF++Y.flatMap (·.2.F))++M₀)) _;refine Perm.trans (Perm.cons _ ?_) perm_middle.symm;rw[<- append_assoc kF];refine Perm.append_right _ ?_;rw[<- append_assoc,<- append_assoc];exact Perm.append_right _ perm_append_comm
 .intro U' v' F' l' M0' hz hF' hl' hM';refine⟨⟨X++({ c with af:=l' },⟨kga,kgl,kgc,v',F'⟩)::Y,[.obj cb (.cells (cc.setIfInBounds (q*4+3) v') 48 (0,0))],?_,?_,?_,?_⟩,ho.rs.lg hz λ _ _ h=>h,ho.rl,ho.rn,ho.rc⟩
  .show _=(b.cs.set q { b.cas q with af:=l' });rw[hcas,<- hps,<- map_set (f:=λ p:Cs×Qao=>p.1) (a:=({ c with af:=l' },(⟨kga,kgl,kgc,v',F'⟩:Qao)))];rw[hset]
  .intro r hr;rw[mem_append,mem_cons]at hr;rcases hr with hr|rfl|hr
   .exact(hok r (by simp[hr])).lg hz
   .have:=hpk.lg hz;exact⟨this.gs,this.gl,hF',this.nm,hl'⟩
   .exact(hok r (by simp[hr])).lg hz
  .rw[hca,hcl,hcap];refine .ofBlk ?_ hcl2 (by simp[hcl3]) λ i x hx=>?_
   .rw[Q0 Z2];simpa using hlen4
   .have hlen1:(X.flatMap Qcq).length=q*4:=by rw[Q0 Z2,hX]
    rw[Array.getElem?_setIfInBounds];rw[flatMap_append,flatMap_cons]at hx;have hcc':=hcc i;rw[flatMap_append,flatMap_cons]at hcc';by_cases e:q*4+3=i
    .subst e;rw[if_pos rfl,if_pos hsz];rw[getElem?_append_right (by omega),hlen1,Nat.add_sub_cancel_left,getElem?_append_left (by rw[Z2];omega)]at hx;exact hx
    .rw[if_neg e];refine hcc' x ?_;by_cases h1:i<q*4
     .rw[getElem?_append_left (by omega)]at hx ⊢;exact hx
     .rw[getElem?_append_right (by omega),hlen1]at hx ⊢;by_cases h2:i-q*4<4
      .rw[getElem?_append_left (by rw[Z2];exact h2)]at hx ⊢;have:i-q*4=0\/i-q*4=1\/i-q*4=2:=by omega
       rcases this with e|e|e <;> rw[e]at hx ⊢ <;> exact hx
      .rw[getElem?_append_right (by rw[Z2];omega)]at hx ⊢;exact hx
  .refine hM'.trans ?_;rw[flatMap_append,flatMap_cons];show Perm _ (.obj cb _::(X.flatMap (·.2.F)++(F'++Y.flatMap (·.2.F))++M0'));refine Perm.trans perm_middle (Perm.cons _ ?_);rw[<- append_assoc F'];refine Perm.append_right _ ?_;rw[<- append_assoc,<- append_assoc];exact Perm.append_right _ perm_append_comm
def Bk.woL(b:Bk)(K:List Nat)(g:Nat->List Int):List Cs:=(range K.length).map λ p=>{ b.cas (K.getD p 0)with af:=g p }
def Bk.woL_len(b:Bk)(K:List Nat)(g:Nat->List Int):(b.woL K g).length=K.length:=by simp[Bk.woL]
def Bk.woL_at{b:Bk}{K:List Nat}{g:Nat->List Int}{q:Nat}(h:q<K.length):(b.woL K g)[q]?=some { b.cas (K.getD q 0)with af:=g q }:=by simp[Bk.woL,h]
def Bk.woL_set{b:Bk}{K:List Nat}{g:Nat->List Int}{q:Nat}(h:q<K.length)(l:List Int):(Bk.mk b.rs (b.woL K g)).setA q l=Bk.mk b.rs (b.woL K λ p=>if p=q then l else g p):=by
 have hc:(Bk.mk b.rs (b.woL K g)).cas q={ b.cas (K.getD q 0)with af:=g q }:=Bk.cas_at (Bk.woL_at h);unfold Bk.setA;rw[hc];congr 1;apply ext_getElem?;intro i;rw[getElem?_set];by_cases e:q=i
 .subst e;rw[if_pos rfl,if_pos (by rw[Bk.woL_len];exact h),Bk.woL_at h,if_pos rfl]
 .rw[if_neg e];by_cases hi:i<K.length
  .rw[Bk.woL_at hi,Bk.woL_at hi,if_neg (Ne.symm e)]
  .rw[getElem?_eq_none (by rw[Bk.woL_len];omega),getElem?_eq_none (by rw[Bk.woL_len];omega)]
def Bk.woL_snoc(b:Bk)(K:List Nat)(k:Nat):b.woL (K++[k]) (λ _=>[])=b.woL K (λ _=>[])++[{ b.cas k with af:=[] }]:=by
 unfold Bk.woL;rw[length_append,length_cons,length_nil,range_succ,map_append];congr 1
 .refine map_congr_left λ p hp=>?_;rw[mem_range]at hp;rw[getD_eq_getElem?_getD,getElem?_append_left hp,<- getD_eq_getElem?_getD]
 .simp[getD_eq_getElem?_getD]
def Bk.woL_congr{b:Bk}{K:List Nat}{g g':Nat->List Int}(h:∀p,p<K.length->g p=g' p):b.woL K g=b.woL K g':=
 map_congr_left λ p hp=>by rw[h p (by simpa using hp)]
def Bk.wo_woL{b:Bk}{f:Nat->Bool}{W:List Nat}(hW:∀i,i<b.cs.length->∀k,(W.getD i 0).testBit k=Qam b.A f b.cs.length i k) :
  b.wo f=Bk.mk b.rs (b.woL (Bk.kpt f b.cs.length) λ p=>Bk.afK f (W.getD ((Bk.kpt f b.cs.length).getD p 0) 0) b.cs.length):=by
 have h:=Bk.wo_cs (out:=f) b W hW;have:b.wo f=Bk.mk b.rs (b.wo f).cs:=rfl;rw[this,h];congr 1;unfold Bk.woL;apply ext_getElem?;intro i;rw[Bk.kpt_all];by_cases hi:i<(b.kept f).length
 .simp[hi,getD_eq_getElem?_getD]
 .rw[getElem?_eq_none (by simpa using hi),getElem?_eq_none (by simpa using hi)]
end Go.TM
