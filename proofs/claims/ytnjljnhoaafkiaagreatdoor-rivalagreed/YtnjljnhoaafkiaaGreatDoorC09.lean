/- Lemmas. No conditions. -/
import Derived.Test.YtnjljnhoaafkiaaGreatDoorC08
import Derived.Test.YtnjljnhoaafkiaaGreatDoorC01
import Derived.Test.YtnjljnhoaafkiaaGreatDoorB40
set_option linter.all false
set_option maxRecDepth 100000
set_option maxHeartbeats 8000000
open List
open Go.Proofs.Tryz (prog)
namespace Go.TM
open Go.Proofs
attribute [local irreducible] Qb Zm Wo
variable{T:Type}{P:Program}{g:Sys P T}{U:Qa T}{f:FuncId}{args:Array Value}{d R':Value->Qa T->Prop}{v:Value}{e:List Int}{A:List Qw}{I:Nat->Option Obj}{k:T}{w:World}{G:Value->Value}{n b:Nat}{s:WK}
def Qb.okd(h:Qb g f args d U)(B:∀v U' w,U'.ok w->d v U'->∃U'',Qv U' U''/\R' v U''):Qb g f args R' U:=by
 delta Qb at h ⊢;intro Stop m c cs k;refine h Stop m c cs λ v U' r=>?_;by_cases b:∃w,U'.ok w
 .obtain⟨w,hw⟩:=b;obtain⟨U'',h1,h2⟩:=B v U' w hw r;exact .shift h1 (k v _ h2)
 .exact .priv ⟨rfl,λ w ok=>absurd ⟨w,ok⟩ b⟩
def Jo.intsV{R:List Qw}(h:Jo 3 1 v (e.map λ n=>.int .i64 n) A)(ok:(⟨I,A++R,k⟩:Qa T).ok w) :
  ∃U'':Qa T,Qv ⟨I,A++R,k⟩ U''/\U''.ok w/\(∀x o,I x=some o->U''.I x=some o)/\U''.M=R/\U''.tok=k/\Jw U''.frz v e:=by
 obtain⟨U'',E,B,a,len,cap,rfl,hl,b,f,_⟩:=Acc.freeze (U:=⟨I,R,k⟩) (U':=⟨I,A++R,k⟩) ok.sep (h R) (λ _ _ h=>h) rfl;simp at hl;exact⟨U'',E,(E.2 w ok).1,B.imm,B.own,B.tok,a,cap,by rw[hl],KV b f⟩
def Qb.listedG{R:List Int->Prop}
  (h:Qb g f args (λ v U'=>∃b l A X,v=G b/\R l/\U'.M=A++(X++U.M)/\Jo 3 1 b (l.map λ n=>.int .i64 n) A/\(∀x o,U.I x=some o->U'.I x=some o)/\U'.tok=U.tok) U) :
  Qb g f args (λ v U'=>(∃b l,v=G b/\R l/\JW U'.frz b l)/\U.le U') U:=by
 refine h.okd λ v U' w ok⟨b,l,A,X,N,L,K,B,H,ht⟩=>?_;have E:Qv U' { U' with M:=A++U.M }:=Zx (by rw[K];exact(Sublist.refl _).append (sublist_append_right ..));obtain⟨F,W,T,P,Q,Y,V⟩:=B.intsV (E.2 w ok).1;obtain⟨a,c,rfl,hi⟩:=V;exact⟨F,E.trans W,⟨_,l,N,L,a,c,rfl,hi,(B []).cap _ _ _ rfl⟩,λ x o h=>P x o (H x o h),Q,Y.trans ht⟩
def Zvc(h:n<256):IntKind.wrap .u8 (n:Int)=n:=by
 have b:(2:Int)^8=256:=D1
 simp only[IntKind.wrap,IntKind.bits,IntKind.signed,Bool.false_and,b];simp;omega
def Zvh(u c:Nat)(F:u<256)(E:c<8):IntKind.wrap .u8 (BitVec.ofInt (IntKind.bits .u8) ((u:Int).fdiv (2^(min (c:Int).toNat (IntKind.bits .u8))))&&&BitVec.ofInt (IntKind.bits .u8) 1).toNat=if u.testBit c then 1 else 0:=by
 show IntKind.wrap .u8 (BitVec.ofInt 8 ((u:Int).fdiv (2^(min (c:Int).toNat 8)))&&&BitVec.ofInt 8 1).toNat=_;have f:min (c:Int).toNat 8=c:=S3
 have w:(u:Int).fdiv (2^c)=((u / 2^c:Nat):Int):=by
  rw[Int.fdiv_eq_ediv_of_nonneg _ (by exact Int.pow_nonneg D1)];simp
 rw[f,w,BitVec.ofInt_natCast,show(BitVec.ofInt 8 1)=BitVec.ofNat 8 1 from rfl];have b:u / 2^c<2^8:=Nat.lt_of_le_of_lt (Nat.div_le_self ..) O1
 have B:(BitVec.ofNat 8 (u / 2^c)&&&BitVec.ofNat 8 1).toNat=u / 2^c % 2:=by
  rw[BitVec.toNat_and,BitVec.toNat_ofNat,BitVec.toNat_ofNat,Nat.mod_eq_of_lt b,show 1 % 2^8=1 from rfl,Nat.and_one_is_mod]
 rw[B,Zvc O1,Nat.testBit_eq_decide_div_mod_eq];by_cases h:u / 2^c % 2=1
 .simp[h]
 .have:u / 2^c % 2=0:=O1
  simp[this]
def WK.edOf(t:WK)(u:Nat):Int:=((u % t.eds.length:Nat):Int)
def WK.isEd_of(hf:s.flaw=0)(u:Nat):s.isEd (s.edOf u)=true:=by
 have b:=WK.flaw_eds hf;have:=Nat.mod_lt u (y:=s.eds.length) O1;unfold WK.isEd QP WK.edOf;simp only[Bool.and_eq_true,decide_eq_true_eq];omega
def Ztv(h:b<n)(p:Int->Bool):(Znk (b+1)).filter p=(Znk b).filter p++(if p (b:Int)then[(b:Int)]else[]):=by
 rw[Ztu,filter_append,filter_cons,filter_nil]
variable{S:Sys prog T}
def Zr2(h:TH)(t:WK)(ht:GK U h t):Qb S 5 #[h.v] (λ v U'=>(∃B:Bool,v=.bool B/\(B=true->t.flaw=0))/\U'=U) U:=by
 refine Qb.pure' (Qb.of (args:=[_]) Zs9 Qf S1 ?_)
 repeat refine⟨rfl,?_⟩
 conv=>whnf
 intro b F f hb;have hb:Zi F b #[.slice h.ea h.el h.ec,.slice h.ma h.ml h.mc,.slice h.ka h.kl h.kc]:=hb;have w:=ht.lg f.lg;refine⟨_,⟨rfl,hb.rdT λ _ _ h=>h⟩,Zr4.any,(Zr0 h t w).mono ?_⟩;rintro _ U'⟨⟨B,rfl⟩,E⟩-;obtain rfl:=E.symm
 repeat refine⟨rfl,?_⟩
 conv=>whnf
 apply Jt<;>intro G
 .refine⟨_,⟨rfl,hb.rdT λ _ _ h=>h⟩,Zr5.any,(Zop h t w).go λ _=>?_⟩
  repeat refine⟨rfl,?_⟩
  conv=>whnf
  exact⟨⟨_,rfl,λ h=>by simpa using h⟩,f.lg⟩
 .repeat refine⟨rfl,?_⟩
  conv=>whnf
  exact⟨⟨_,rfl,λ h=>by cases h⟩,f.lg⟩
def Zo9(h:TH)(t:WK)(ht:GK U h t)(hf:t.flaw=0)(e:Int)(hed:t.isEd e=true)(u:Nat)(hu:u<256):Qb S 7 #[h.v,.int .i64 e,.int .u8 u] (λ v U'=>(∃W m,v=W/\m=t.chosen e u/\JW U'.frz W m)/\U.le U') U:=by
 refine Qb.listedG (G:=λ W=>W) (R:=λ m=>m=t.chosen e u) (Qb.of (args:=[_,_,_]) Zrh Qf S1 ?_);obtain⟨V,X,ia,il,ic,rfl,ae,ab,af,ad⟩:=WK.isEd_at ht hed;have ac:(t.items (V:Int)).length=il:=ad.1;have h8:=WK.ni8 hf (V:Int);unfold WK.ni at h8
 repeat refine⟨rfl,?_⟩
 conv=>whnf
 intro b U1 B hb;have hb:Zi U1 b #[.slice h.ea h.el h.ec,.slice h.ma h.ml h.mc,.slice h.ka h.kl h.kc]:=hb
 refine⟨Nat×Value,λ y=>[(1,.int .i64 (V:Int)),(2,.int .u8 u),(3,.pb b),(7,y.2),(8,.int .i64 y.1)],
  λ y U'=>U1.lg U'/\(∀x o,U.I x=some o->U'.I x=some o)/\U'.tok=U.tok/\Acc 3 1 y.2 (((Znk y.1).filter λ n=>u.testBit n.toNat).map λ n=>.int .i64 n) U'.M U.M/\y.1<=il,λ y=>il-y.1,(0,.nl),T1,⟨(Qa.le.refl _).lg,B.imm,B.tok,by rw[B.own];exact .nil,S1⟩,?_⟩
 rintro⟨c,v⟩f U2⟨w,hI,N,ha,hi⟩;simp only at ha hi;have ag:=length_filter_le (λ n:Int=>u.testBit n.toNat) (Znk c);have ah:(Znk c).length=c:=by unfold Znk;simp
 obtain⟨sa,sc,rfl,-⟩:=SF ha;refine⟨_,(hb.lg w).sees3 (o:=0) rfl,X,V,⟨ab,rfl,ae⟩,_,af.lg (B.lg.trans w),?_⟩
 repeat refine⟨rfl,?_⟩
 conv=>whnf
 apply Qg<;>intro L
 .have hlt:c<il:=by simpa using L
  have T:Z9 ((c:Int)+1):=I1
  have K:=Ztv hlt λ n=>u.testBit n.toNat
  repeat refine⟨rfl,?_⟩
  refine⟨Zz2,?_⟩
  repeat refine⟨rfl,?_⟩
  conv=>whnf
  rw[Zvh u c hu O1];apply Qg<;>intro L
  .have hyes:u.testBit c=true:=by
    apply Classical.byContradiction;intro hn;rw[if_neg hn]at L;simp at L
   rw[if_pos (by simpa using hyes)]at K
   conv=>whnf
   intro Y Q;refine Zl Q λ U5 E H=>?_;have H:Zi U5 Y #[.int .i64 (c:Int)]:=H
   conv=>whnf
   refine Wn (v:=.slice sa _ sc) (cs:=((Znk c).filter λ n=>u.testBit n.toNat).map λ n=>.int .i64 n) (new:=[.int .i64 (c:Int)]) (M₀:=U.M) H4 rfl rfl (by rw[E.own];exact ha) (.inr ⟨_,rfl,H.rd⟩) rfl Zz1 S3 λ v' M' aa _=>?_;have F:Acc 3 1 v' (((Znk (c+1)).filter λ n=>u.testBit n.toNat).map λ n=>.int .i64 n) M' U.M:=by rw[K];simpa using aa
   obtain⟨ta,tc,rfl,-⟩:=SF (U:={ U5 with M:=M' }) F;obtain⟨A',Z⟩:=F.own;refine⟨T,?_⟩
   conv=>whnf
   exact⟨rfl,(c+1,.slice ta _ tc),T1,⟨⟨λ x o h=>E.imm x o (w.imm x o h),⟨A',by rw[B.own];exact Z⟩,E.tok.trans w.tok⟩,λ x o h=>E.imm x o (hI x o h),E.tok.trans N,F,Zz2⟩,L1⟩
  .have hno:u.testBit c=false:=by
    apply Classical.byContradiction;intro hn;rw[if_pos (by simpa using hn)]at L;simp at L
   rw[if_neg (by simp[hno])]at K;rw[append_nil]at K;refine⟨T,?_⟩
   conv=>whnf
   exact⟨rfl,(c+1,.slice sa _ sc),T1,⟨w,hI,N,by rw[K];exact ha,Zz2⟩,L1⟩
 .have hge:il<=c:=by simpa using L
  obtain rfl:c=il:=O1
  obtain⟨A,hA,P⟩:=ha.split
  repeat refine⟨rfl,?_⟩
  conv=>whnf
  exact⟨_,_,A,[],rfl,by unfold WK.chosen WK.ni;rw[ac],hA,P,hI,N⟩
variable{U':Qa T}
def Qa.le.frz2(h:U.le U'):U.frz.lg U'.frz:=⟨h.imm,⟨[],rfl⟩,h.tok⟩
def Zrx(U:Qa T)(v:Value)(l:List Int):Prop:=∃a c,v=.slice a l.length c/\Z6 U.frz a l.length l
def Zrx.le{T:Type}{U U':Qa T}{v:Value}{l:List Int}(h:Zrx U v l)(k:U.le U'):Zrx U' v l:=let ⟨a,c,e,h⟩:=h;⟨a,c,e,h.lg k.frz2⟩
variable{a ca:Option Addr}{cap x:Nat}{cs:List Qzr}
section
variable(h:TH)(t:WK)(ht:GK U.frz h t)(hf:t.flaw=0)
include ht hf
def Zml(e:Int)(hed:t.isEd e=true)(u:Nat)(f:u<256):Qb S 7 #[h.v,.int .i64 e,.int .u8 u] (λ v U'=>Zrx U' v (t.chosen e u)/\U.le U') U:=by
 refine(Zo9 h t (ht.lg Qr) hf e hed u f).mono ?_;rintro v U'⟨⟨_,_,rfl,rfl,hi⟩,b⟩;exact⟨hi.v,b⟩
def Zn3(e:Int)(hed:t.isEd e=true){l:List Int}(hl:Z6 U.frz a l.length l)(hL:t.Lst e l)(b:Zmu U.frz ca n cs)(E:cs.length<=4)(F:∀c∈cs,t.Lst e c.items) :
  Qb S 11 #[h.v,.int .i64 e,.slice a l.length cap,.slice ca n x] (λ v U'=>(∃f,v=.tuple #[f,.int .i64 0]/\Zrx U' f (l.filter (Znx cs)))/\U.le U') U:=by
 have B:=WK.cutF_of hf hed hL E F;have I:=hL.len hf;have G:=b.1;have k:=Zry (S:=S) h t (ht.lg Qr) e a ca l.length cap n x l cs (hl.lg Qr) b O1 O1;rw[B,WK.cutL_of B]at k;refine k.mono ?_;rintro v U'⟨⟨f,rfl,H⟩,w⟩;exact⟨⟨f,rfl,H⟩,w⟩
end
variable{keep:Bool}
def Zmu.one(hb:Zi U b #[.slice a e.length cap,.bool keep])(h:Z6 U a e.length e)(k:e.length<2^60):Zmu U (some ⟨b,0,none⟩) 1 [⟨e,keep⟩]:=by
 refine⟨rfl,λ i x hx=>?_⟩;obtain rfl:i=0:=by have:=(Zz4 hx);simp at this;omega
 cases hx;refine⟨_,_,rfl,rfl,⟨a,e.length,cap,rfl,h,k⟩,rfl,λ i v f=>?_⟩
 match i,f with
 |0,f=>simp at f;subst f;rw[Nat.zero_mul,Qo,Qo];exact hb.sees rfl
 |1,f=>simp at f;subst f;rw[Nat.zero_mul,Qo,Qo];exact hb.sees rfl
 |i+2,f=>simp at f
def Zi.frz{T:Type}{U:Qa T}{b:Nat}{c:Array Value}(h:Zi U b c):Zi U.frz b c:=h
def Ztf(U:Qa T)(v:Value)(l:List (Int×Int)):Prop:=∃a c,v=.slice a l.length c/\l.length<=c/\Zrb U.frz a l.length l
def Ztf.le{T:Type}{U U':Qa T}{v:Value}{l:List (Int×Int)}(h:Ztf U v l)(k:U.le U'):Ztf U' v l:=let ⟨a,c,e,g,h⟩:=h;⟨a,c,e,g,h.lg k.frz2⟩
def Zvf(U:Qa T)(v:Value)(t:WK)(tk:Qvl):Prop:=∃b f h L,v=.tuple #[b,f,h,.int .i64 0]/\Zrx U b (t.agr tk).1/\Zrx U f (t.agr tk).2/\Ztf U h L/\Qlh tk.a (t.mostT tk) (t.prs tk)=some L
def Zp8(U:Qa T)(v:Value)(l:List (Int×Int)):Prop:=∃b,v=.tuple #[b,.int .i64 0]/\Ztf U b l
def Zp8.le{T:Type}{U U':Qa T}{v:Value}{l:List (Int×Int)}(h:Zp8 U v l)(k:U.le U'):Zp8 U' v l:=let ⟨v1,e,h⟩:=h;⟨v1,e,h.le k⟩
def Zj0(l m:List Int):l.filter (Znx [⟨m,false⟩])=Qi1 l m:=by
 unfold Qi1;refine filter_congr λ n _=>?_;simp[Znx,Qzr.lets]
section
variable(h:TH)(t:WK)(ht:GK U.frz h t)(hf:t.flaw=0)(e lv:Int)(hed:t.isEd e=true){a a':Option Addr}{cap cap':Nat}{l l':List Int}(hl:Z6 U.frz a l.length l)(hL:t.Lst e l)(hl':Z6 U.frz a' l'.length l')(hL':t.Lst e l')(h1:1<=lv)(h5:lv<=5)
include ht hf hed hl hL hl' hL' h1 h5
def Zrz:Qb S 13 #[h.v,.int .i64 e,.slice a l.length cap,.slice a' l'.length cap',.int .i64 lv] (λ v U'=>Zvf U' v t ⟨e,lv,l,l'⟩/\U.le U') U:=by
 have G:=WK.talk_of hf hed hL hL' h1 h5;have K:=hL.len hf;have L:=hL'.len hf;have k:=Zp9 (S:=S) h t ht e lv a a' l.length cap l'.length cap' l l' hl hl' O1 O1 (λ _=>WK.proof_some (tk:=⟨e,lv,l,l'⟩) hL.asc λ x hx=>(hL.lt hf x hx).1) (λ _ x=>Nat.le_trans (t.reach_len ⟨e,lv,l,l'⟩ x []) (Nat.mul_le_mul K L));rw[G]at k;refine k.mono ?_;rintro v U'⟨⟨N,P,Q,la,H,I,rfl,h1,h2,⟨M,pc,rfl,f,hp⟩,B⟩,b⟩;rw[if_pos rfl]at B;obtain⟨w,E⟩:=B;have ea:(t.agr ⟨e,lv,l,l'⟩).1=la:=by rw[<- w]
 have F:(t.agr ⟨e,lv,l,l'⟩).2=H:=by rw[<- w]
 refine⟨⟨N,P,_,I,rfl,?_,?_,⟨M,pc,rfl,f,hp⟩,E⟩,b⟩
 .rw[ea];obtain⟨x,c,rfl,-,hi⟩:=h1;exact⟨x,c,rfl,hi⟩
 .rw[F];obtain⟨x,c,rfl,-,hi⟩:=h2;exact⟨x,c,rfl,hi⟩
def Qvr:Qb S 8 #[h.v,.int .i64 e,.slice a l.length cap,.slice a' l'.length cap',.int .i64 lv] (λ v U'=>Zp8 U' v (t.prs ⟨e,lv,l,l'⟩)/\U.le U') U:=by
 have w:=WK.talk_of hf hed hL hL' h1 h5;have F:=hL.len hf;have G:=hL'.len hf;have k:=Zqa (S:=S) h t ht e lv a a' l.length cap l'.length cap' l l' hl hl' O1 O1;rw[w]at k;refine k.mono ?_;rintro v U'⟨⟨H,_,rfl,rfl,E,pc,rfl,b,hp⟩,f⟩;have B:t.pairsL e l l' lv=t.prs ⟨e,lv,l,l'⟩:=by unfold WK.pairsL;rw[if_pos w];rfl
 rw[B]at b hp ⊢;exact⟨⟨_,rfl,E,pc,rfl,b,hp⟩,f⟩
end
variable{fn:FuncId}{ro:Option Nat}{mu dets:List Nat}{o:Code}{c':C}{Q:Ex->Act->Qa T->Prop}{j:Fm}{ds:List Deferred}{p:Prop}{q:Zk T}{τ:Qa T}{l:List (Nat×Array Value)}{c:Array Value}{t:TypeId}
def Zvb(n m:Nat):(n:Int).tmod (m:Int)=((n % m:Nat):Int):=by rw[Int.tmod_eq_emod_of_nonneg O1];rfl
def Zup{a:Act}(hf:FR cap a j ds)(hm:P.follows .mixedOrders=true)(F:clean P mu cap dets o=Xv P mu cap dets [] o)
  (h:(∃w,U.ok w)->∃b,Qv U b/\ZT g fn ro c' (λ j ds U=>∀a',FR cap a' j ds->Q .normal a' U) (λ _ _ _ _=>False) (λ _ _ _=>False) j ds b) (I:Xv P mu cap dets [] o=c':=by conv=>lhs;cbv):Zq g fn ro o Q a U:=
 Zm1 λ H=>by
  obtain⟨b,G,h⟩:=h H;refine gJ G (Zq.mono (Ga (mu:=mu) (dets:=dets) (n:=λ j ds U=>∀a',FR cap a' j ds->Q .normal a' U) (x:=λ _ _ _ _=>False) (r:=λ _ _ _=>False) hm o hf (by rw[F,I];exact h)) ?_);rintro e a' U'⟨K,E,B,hp⟩;cases e with
  |normal=>exact hp a' B
  |exit i=>exact hp.elim
  |ret=>exact hp.elim
def Zt7(E:Fm->Qa T->Prop)(h:∀w U',E w U'->q w ds U')(ha:keep=true->∀N,q=N->(∀w U',E w U'->N w ds U')->p)(hb:keep=false->E j U):CB keep p (q j ds U):=
 Qg (λ e=>ha e q rfl h) λ e=>h _ _ (hb e)
def Qel(τ:Qa T)(l:List (Nat×Array Value))(U:Qa T):Prop:=(∀q∈l,Zi U q.1 q.2)/\τ.le U
def Qel.le{τ:Qa T}{l:List (Nat×Array Value)}(h:Qel τ l U)(k:U.le U'):Qel τ l U':=⟨λ q b=>(h.1 q b).le k,h.2.trans k⟩
def Qel.frz{τ:Qa T}{l:List (Nat×Array Value)}(h:Qel τ l U):τ.frz.lg U:=⟨h.2.imm,Zz3,h.2.tok⟩
def Qel.new(h:Qel τ l U)(hf:U.free n):∃w,Qv (U.put n (.cells c t)) w/\∃b,Qv w b/\∃x,Value.slice (some ⟨n,0,none⟩) 2 2=.slice (some ⟨x,0,none⟩) 2 2/\Qel τ ((x,c)::l) b:=
 Zl hf λ b hl hb=>⟨_,.refl _,n,rfl,λ q f=>by
  rcases mem_cons.1 f with rfl|f
  .exact hb
  .exact(h.1 q f).le hl,h.2.trans hl⟩
def Qel.at(h:Qel τ l U)(hm:(x,c)∈l)(e:c[b]?=some v):U.sees ((Addr.mk x 0 none).add (b*1)) v:=by
 rw[Nat.mul_one];exact(h.1 _ hm).sees3 e
def Yqa(τ:Qa T)(c:Array Value)(l:List (Nat×Array Value))(v:Value)(U:Qa T):Prop:=∃x,v=.slice (some ⟨x,0,none⟩) 2 2/\Qel τ ((x,c)::l) U
def Yql(τ:Qa T)(w:Value)(l:List (Nat×Array Value))(v:Value)(U:Qa T):Prop:=v=w/\Qel τ l U
def Yqa.m2{τ:Qa T}{c:Array Value}{l:List (Nat×Array Value)}(v:Value):∀U U',Yqa τ c l v U->U.le U'->Yqa τ c l v U':=λ _ _⟨x,e,F⟩w=>⟨x,e,F.le w⟩
def Yql.m2{τ:Qa T}{c:Value}{l:List (Nat×Array Value)}(v:Value):∀U U',Yql τ c l v U->U.le U'->Yql τ c l v U':=λ _ _⟨e,F⟩w=>⟨e,F.le w⟩
def Yqa.f2{τ:Qa T}{c:Array Value}{l:List (Nat×Array Value)}(v:Value)(U:Qa T):Yqa τ c l v U->τ.frz.lg U:=λ⟨_,_,F⟩=>F.frz
def Yql.f2{τ:Qa T}{c:Value}{l:List (Nat×Array Value)}(v:Value)(U:Qa T):Yql τ c l v U->τ.frz.lg U:=λ⟨_,F⟩=>F.frz
def Zu0(h:Zi U b #[.string ⟨#[111,110,101]⟩,.string ⟨#[116,119,111]⟩])(B:Bool):Q7 U (some ⟨b,0,none⟩) 2 1 (agB B).rs λ s vs=>vs=[.string s]:=by
 refine⟨rfl,λ i x hx=>?_⟩;refine⟨_,_,rfl,rfl,rfl,rfl,λ k v f=>?_⟩;have w:k=0:=by have:=(Zz4 f);simp at this;omega
 subst w;simp at f;subst f;rw[Qo,Qo];refine h.sees ?_;have hi:i<2:=(Zz4 hx);obtain rfl|rfl:i=0\/i=1:=O1
 all_goals(cases hx;rfl)
def Zuz(E:Zi U n #[.int .i64 0])(w:Zi U b #[.slice (some ⟨n,0,none⟩) 1 1])(B:Zi U cap #[.string ⟨#[111,112,112]⟩,.int .i64 1,.slice (some ⟨b,0,none⟩) 1 1,.nl]):Q7 U (some ⟨cap,0,none⟩) 1 4 (agB true).cs (V3 U):=by
 refine⟨rfl,λ i x hx=>?_⟩;have hi:i<1:=(Zz4 hx);obtain rfl:i=0:=O1
 cases hx;refine⟨_,_,rfl,rfl,⟨_,_,_,_,_,_,rfl,Wx.one w ⟨rfl,λ i x hx=>?_⟩ D1,D1,⟨rfl,λ i x hx=>by cases hx⟩,D1⟩,rfl,by rw[Qo];exact B.rd⟩
 obtain rfl:i=0:=by
  have:=(Zz4 hx);simp at this;omega
 obtain rfl:x=0:=by simpa using hx.symm
 exact⟨_,rfl,rfl,E.sees3 rfl⟩
section
def Qzs(l:List Nat):List Nat:=[0,1,2,3,5,8,9,11,14]++l++[15,16,17,18,19]
def Ztz{U:Qa Tk}(au:U.tok=⟨0,.out,none⟩)(hk:JU U)(h:TH)(t:WK)(ht:GK U.frz h t)(ed:Nat)(hed:ed<256)(bits:Nat)(av:bits<256)(ot:Nat)(b2:ot<256)(lv:Nat)(b8:lv<256) :
  J (Za Tryz.prog 176 6) (Fin Tryz.prog λ v U'=>v=.bool true/\U.lg U') true (Rf (Frame.enter Tryz.prog 4 #[h.v,.int .u8 ed,.int .u8 bits,.int .u8 ot,.int .u8 lv] .normal) []) U:=by
 refine Znb (args:=[_,_,_,_,_]) (Q:=λ v U'=>v=.bool true/\U.lg U') Zul Qf K1 S1 (λ v U' q=>q.2.tok.trans au) ?_;have fin:∀U2:Qa Tk,U.lg U2->Qb (Za Tryz.prog 176 6) 6 #[] (λ v U'=>v=.bool true/\U'=U2) U2:=λ U2 h=>Zjw (h.tok.trans au) (hk.lg h)
 repeat refine⟨rfl,?_⟩
 conv=>whnf
 intro b U1 ap hb;have hb:Zi U1 b #[.slice h.ea h.el h.ec,.slice h.ma h.ml h.mc,.slice h.ka h.kl h.kc]:=hb;have ht:=ht.lg ap.frz2;refine⟨_,⟨rfl,hb.rdT λ _ _ h=>h⟩,Zs9.any,(Zr2 h t (ht.lg Qr)).mono ?_⟩;rintro _ U'⟨⟨B,rfl,hB⟩,bw⟩-;obtain rfl:=bw.symm;cases B with
 |false=>
  refine⟨gY.any,(fin _ ap.lg).go λ _=>?_⟩
  repeat refine⟨rfl,?_⟩
  conv=>whnf
  exact ap.lg
 |true=>
 have hf:t.flaw=0:=hB rfl;clear hB;have b0:=ht.eds.1;have b5:=WK.flaw_eds hf;have bq:(h.el:Int)≠0:=O1
 have w1:IntKind.wrap .i64 (ed:Int)=(ed:Int):=ZZ O1;have w2:IntKind.wrap .i64 (lv:Int)=(lv:Int):=ZZ O1;have e1:(ed:Int).tmod (h.el:Int)=t.edOf ed:=by rw[Zvb];unfold WK.edOf;rw[b0]
 have e2:(lv:Int).tmod 5=((lv % 5:Nat):Int):=Zvb lv 5;have he:=WK.isEd_of hf ed;have hM:1<=1+((lv % 5:Nat):Int)/\1+((lv % 5:Nat):Int)<=5:=O1
 conv=>whnf
 rw[w1];refine⟨_,hb.sees3 (o:=0) rfl,rfl,bq,?_⟩;rw[e1]
 conv=>whnf
 rw[w2];refine⟨rfl,D1,?_⟩;rw[e2];refine⟨I1,?_⟩;generalize 1+((lv % 5:Nat):Int)=n at hM ⊢;generalize bx:t.edOf ed=e at he ⊢;clear e1 e2 w1 w2 bq bx;have ab:=t.lst_chosen e bits;have hO:=t.lst_chosen e ot;have b4:=ab.len hf;have nO:=hO.len hf;clear b4 nO;generalize hA:t.chosen e bits=A at ab ⊢;generalize bd:t.chosen e ot=O at hO ⊢;refine⟨_,⟨rfl,hb.rdT λ _ _ h=>h⟩,_,⟨rfl,hb.rdT λ _ _ h=>h⟩,λ v U'=>Zrx U' v A,λ v U1 U2 G w=>G.le w,λ U' w _=>?_,λ v _=>?_⟩
 .refine⟨Zrh.any,(Zml h t (ht.lg w.frz2) hf e he bits av).mono ?_⟩;rintro v U''⟨G,H⟩-;rw[hA]at G;exact⟨U'',.refl _,G,H⟩
 conv=>whnf
 intro U2 h2 E;have bk:=ap.trans h2;have hb:=hb.le h2;have ht:=ht.lg h2.frz2;obtain⟨-,W,c1,rfl,i1⟩:=E;refine⟨Zrh.any,(Zml h t ht hf e he ot b2).mono ?_⟩;rintro _ U3⟨⟨Z,c2,rfl,i2⟩,h3⟩-;rw[bd]at i2 ⊢;clear hA bd;have bl:=bk.trans h3;have hb:=hb.le h3;have ht:=ht.lg h3.frz2;have i1:=i1.lg h3.frz2;refine⟨_,⟨rfl,hb.rdT λ _ _ h=>h⟩,Zr3.any,(Zrz h t ht hf e n he i1 ab i2 hO hM.1 hM.2).mono ?_⟩;rintro _ U4⟨⟨_,_,_,L,rfl,⟨a3,c3,rfl,i3⟩,⟨a4,c4,rfl,i4⟩,⟨a7,c7,rfl,-,-⟩,-⟩,h4⟩-;have hX:t.Lst e (t.agr ⟨e,n,A,O⟩).1:=WK.Lst.sub ab (WK.agr_one ab.asc hO.asc);have hY:t.Lst e (t.agr ⟨e,n,A,O⟩).2:=WK.Lst.sub hO (WK.agr_two ab.asc hO.asc);have V:t.prs ⟨e,n,Qi1 A (t.agr ⟨e,n,A,O⟩).1,Qi1 O (t.agr ⟨e,n,A,O⟩).2⟩=[]:=Zt5 ab.asc hO.asc;generalize(t.agr ⟨e,n,A,O⟩).1=X at hX V i3 ⊢;generalize(t.agr ⟨e,n,A,O⟩).2=Y at hY V i4 ⊢;have nX:=hX.len hf;have nY:=hY.len hf;have bm:=bl.trans h4;have hb:=hb.le h4;have ht:=ht.lg h4.frz2;have i1:=i1.lg h4.frz2;have i2:=i2.lg h4.frz2
 repeat refine⟨rfl,?_⟩
 refine⟨_,⟨rfl,hb.rdT λ _ _ h=>h⟩,?_⟩
 conv=>whnf
 intro bc T;refine Zl T λ U5 g1 T=>?_;have T:Zi U5 bc #[.slice a3 X.length c3,.bool false]:=T;have an:=bm.trans g1;have hb:=hb.le g1;have ht:=ht.lg g1.frz2;have i1:=i1.lg g1.frz2;have i2:=i2.lg g1.frz2;have i3:=i3.lg g1.frz2;have i4:=i4.lg g1.frz2;refine⟨Zpc.any,(Zn3 h t ht hf e he i1 ab (cs:=[⟨X,false⟩]) (Zmu.one T.frz i3 O1) (by show 1<=4;omega) (λ c hc=>by rw[mem_singleton.1 hc];exact hX)).mono ?_⟩;rintro _ U6⟨⟨_,rfl,a5,c5,rfl,i5⟩,g2⟩-;rw[Zj0]at i5 ⊢;have bo:=an.trans g2;have hb:=hb.le g2;have ht:=ht.lg g2.frz2;clear an T g1;have i1:=i1.lg g2.frz2;have i2:=i2.lg g2.frz2;have i3:=i3.lg g2.frz2;have i4:=i4.lg g2.frz2;have a8:t.Lst e (Qi1 A X):=by rw[<- Zj0];exact ab.filter _
 generalize Qi1 A X=P at a8 V i5 ⊢;clear g2
 repeat refine⟨rfl,?_⟩
 refine⟨_,⟨rfl,hb.rdT λ _ _ h=>h⟩,?_⟩
 conv=>whnf
 intro bc T;refine Zl T λ U7 g1 T=>?_;have T:Zi U7 bc #[.slice a4 Y.length c4,.bool false]:=T;have an:=bo.trans g1;have hb:=hb.le g1;have ht:=ht.lg g1.frz2;have i1:=i1.lg g1.frz2;have i2:=i2.lg g1.frz2;have i3:=i3.lg g1.frz2;have i4:=i4.lg g1.frz2;have i5:=i5.lg g1.frz2;refine⟨Zpc.any,(Zn3 h t ht hf e he i2 hO (cs:=[⟨Y,false⟩]) (Zmu.one T.frz i4 O1) (by show 1<=4;omega) (λ c hc=>by rw[mem_singleton.1 hc];exact hY)).mono ?_⟩;rintro _ U8⟨⟨_,rfl,a6,c6,rfl,i6⟩,g2⟩-;rw[Zj0]at i6 ⊢;have bp:=an.trans g2;have hb:=hb.le g2;have ht:=ht.lg g2.frz2;clear an T g1;have i1:=i1.lg g2.frz2;have i2:=i2.lg g2.frz2;have i3:=i3.lg g2.frz2;have i4:=i4.lg g2.frz2;have i5:=i5.lg g2.frz2;have ba:t.Lst e (Qi1 O Y):=by rw[<- Zj0];exact hO.filter _
 generalize Qi1 O Y=Q at ba V i6 ⊢;clear g2
 repeat refine⟨rfl,?_⟩
 refine⟨Nat,λ y=>[(5,.pb b),(11,.int .i64 e),(12,.int .i64 n),(13,.slice W A.length c1),(14,.slice Z O.length c2),(19,.slice a5 P.length c5),(20,.slice a6 Q.length c6),(22,.int .i64 y)],
  λ y U'=>U8.le U'/\y<=2,λ y=>2-y,0,T1,⟨.refl _,O1⟩,?_⟩
 rintro i f τ⟨af,hi⟩;have ax:Z9 ((i:Int)+1):=I1
 have hb:=hb.le af;have ht:=ht.lg af.frz2;have i1:=i1.lg af.frz2;have i2:=i2.lg af.frz2;have i5:=i5.lg af.frz2;have i6:=i6.lg af.frz2;have w:=bp.trans af
 repeat refine⟨rfl,?_⟩
 conv=>whnf
 apply Qg<;>intro hc
 .have hi2:i<2:=by
   have:(i:Int)<2:=by simpa using hc
   omega
  clear hc hi
  obtain⟨aA,cA,A1,eA,aq,ai,iA⟩:∃aA cA A1,#[Value.slice W A.length c1,.slice a5 P.length c5][i]?=some (.slice aA (List.length A1) cA)/\A1=(if i=0 then A else P)/\t.Lst e A1/\Z6 τ.frz aA A1.length A1:=by
   obtain rfl|rfl:i=0\/i=1:=O1
   .exact⟨W,c1,A,rfl,rfl,ab,i1⟩
   .exact⟨a5,c5,P,rfl,rfl,a8,i5⟩
  obtain⟨aO,cO,O7,eO,be,aj,iO⟩:∃aO cO O7,#[Value.slice Z O.length c2,.slice a6 Q.length c6][i]?=some (.slice aO (List.length O7) cO)/\O7=(if i=0 then O else Q)/\t.Lst e O7/\Z6 τ.frz aO O7.length O7:=by
   obtain rfl|rfl:i=0\/i=1:=O1
   .exact⟨Z,c2,O,rfl,rfl,hO,i2⟩
   .exact⟨a6,c6,Q,rfl,rfl,ba,i6⟩
  obtain⟨B,hB⟩:∃B,B=!(t.prs ⟨e,n,A1,O7⟩).isEmpty:=⟨_,rfl⟩;have bt:i=1->B=false:=agr_two (A:=A) (O:=O) V i B (by rw[<- aq,<- be];exact hB);clear aq be
  let XA:=#[Value.slice W A.length c1,.slice a5 P.length c5];let XO:=#[Value.slice Z O.length c2,.slice a6 Q.length c6];have eA:XA[i]?=some (.slice aA (List.length A1) cA):=eA;have eO:XO[i]?=some (.slice aO (List.length O7) cO):=eO
  conv=>whnf
  intro act aa
  refine Sx (mu:=[1019]) (ops:=GZ Tryz.f4 15) (id:=15) aa [4,7,10,13,15] [Qzs [4,6,7,10,12,13],Qzs [4,6,10,12,7,13],Qzs [4,6,10,12,13,7],Qzs [10,12,4,6,7,13],Qzs [10,12,4,6,13,7],Qzs [10,12,13,4,6,7]] [20] Qf
   (λ f' a0 U'=>a0=[]/\∃v1,Xx f' [(5,.pb b),(11,.int .i64 e),(12,.int .i64 n),(13,.slice W A.length c1),(14,.slice Z O.length c2),(19,.slice a5 P.length c5),(20,.slice a6 Q.length c6),(22,.int .i64 i),(23,v1),(113,.int .i64 0)]/\Ztf U' v1 (t.prs ⟨e,n,A1,O7⟩)/\τ.le U') ?_ ?_
  .intro l hl;simp only[mem_cons,not_mem_nil,or_false]at hl;rcases hl with rfl|rfl|rfl|rfl|rfl|rfl
   refine⟨_,⟨rfl,hb.rdT λ _ _ h=>h⟩,Yqa τ XA [],Yqa.m2,Yqa.f2,λ U' E=>?_,λ v G=>?_⟩
   .conv=>whnf
    intro p hp;exact Qel.new ⟨nofun,E⟩ hp
   obtain⟨_,x,rfl,-⟩:=G;refine⟨_,i,⟨rfl,rfl,hi2⟩,Yql τ (.slice aA A1.length cA) [(x,XA)],Yql.m2,Yql.f2,λ U' E=>?_,λ v G=>?_⟩
   .obtain⟨x',e',E⟩:=E;obtain rfl:x=x':=by simpa using e'
    conv=>whnf
    exact⟨_,E.at S1 eA,_,.refl _,rfl,E⟩
   obtain⟨_,rfl,-⟩:=G;refine⟨Yqa τ XO [(x,XA)],Yqa.m2,Yqa.f2,λ U' E=>?_,λ v G=>?_⟩
   .obtain⟨-,E⟩:=E
    conv=>whnf
    intro p hp;exact Qel.new E hp
   obtain⟨_,y,rfl,-⟩:=G;refine⟨_,i,⟨rfl,rfl,hi2⟩,Yql τ (.slice aO O7.length cO) [(y,XO),(x,XA)],Yql.m2,Yql.f2,λ U' E=>?_,λ v G=>?_⟩
   .obtain⟨y',e',E⟩:=E;obtain rfl:y=y':=by simpa using e'
    conv=>whnf
    exact⟨_,E.at S1 eO,_,.refl _,rfl,E⟩
   obtain⟨_,rfl,-⟩:=G;rotate_left
   refine⟨_,⟨rfl,hb.rdT λ _ _ h=>h⟩,Yqa τ XA [],Yqa.m2,Yqa.f2,λ U' E=>?_,λ v G=>?_⟩
   .conv=>whnf
    intro p hp;exact Qel.new ⟨nofun,E⟩ hp
   obtain⟨_,x,rfl,-⟩:=G;refine⟨_,i,⟨rfl,rfl,hi2⟩,Yqa τ XO [(x,XA)],Yqa.m2,Yqa.f2,λ U' E=>?_,λ v G=>?_⟩
   .obtain⟨x',e',E⟩:=E;obtain rfl:x=x':=by simpa using e'
    conv=>whnf
    intro p hp;exact Qel.new E hp
   obtain⟨_,y,rfl,-⟩:=G;refine⟨_,i,⟨rfl,rfl,hi2⟩,Yql τ (.slice aA A1.length cA) [(y,XO),(x,XA)],Yql.m2,Yql.f2,λ U' E=>?_,λ v G=>?_⟩
   .obtain⟨y',e',E⟩:=E;obtain rfl:y=y':=by simpa using e'
    conv=>whnf
    exact⟨_,E.at S1 eA,_,.refl _,rfl,E⟩
   obtain⟨_,rfl,-⟩:=G;refine⟨Yql τ (.slice aO O7.length cO) [(y,XO),(x,XA)],Yql.m2,Yql.f2,λ U' E=>?_,λ v G=>?_⟩
   .obtain⟨-,E⟩:=E
    conv=>whnf
    exact⟨_,E.at S1 eO,_,.refl _,rfl,E⟩
   obtain⟨_,rfl,-⟩:=G;rotate_left
   refine⟨_,⟨rfl,hb.rdT λ _ _ h=>h⟩,Yqa τ XA [],Yqa.m2,Yqa.f2,λ U' E=>?_,λ v G=>?_⟩
   .conv=>whnf
    intro p hp;exact Qel.new ⟨nofun,E⟩ hp
   obtain⟨_,x,rfl,-⟩:=G;refine⟨_,i,⟨rfl,rfl,hi2⟩,Yqa τ XO [(x,XA)],Yqa.m2,Yqa.f2,λ U' E=>?_,λ v G=>?_⟩
   .obtain⟨x',e',E⟩:=E;obtain rfl:x=x':=by simpa using e'
    conv=>whnf
    intro p hp;exact Qel.new E hp
   obtain⟨_,y,rfl,-⟩:=G;refine⟨_,i,⟨rfl,rfl,hi2⟩,Yql τ (.slice aO O7.length cO) [(y,XO),(x,XA)],Yql.m2,Yql.f2,λ U' E=>?_,λ v G=>?_⟩
   .obtain⟨y',e',E⟩:=E;obtain rfl:y=y':=by simpa using e'
    conv=>whnf
    exact⟨_,E.at S1 eO,_,.refl _,rfl,E⟩
   obtain⟨_,rfl,-⟩:=G;refine⟨Yql τ (.slice aA A1.length cA) [(y,XO),(x,XA)],Yql.m2,Yql.f2,λ U' E=>?_,λ v G=>?_⟩
   .obtain⟨-,E⟩:=E
    conv=>whnf
    exact⟨_,E.at S1 eA,_,.refl _,rfl,E⟩
   obtain⟨_,rfl,-⟩:=G;rotate_left
   refine⟨_,⟨rfl,hb.rdT λ _ _ h=>h⟩,Yqa τ XO [],Yqa.m2,Yqa.f2,λ U' E=>?_,λ v G=>?_⟩
   .conv=>whnf
    intro p hp;exact Qel.new ⟨nofun,E⟩ hp
   obtain⟨_,y,rfl,-⟩:=G;refine⟨_,i,⟨rfl,rfl,hi2⟩,Yqa τ XA [(y,XO)],Yqa.m2,Yqa.f2,λ U' E=>?_,λ v G=>?_⟩
   .obtain⟨y',e',E⟩:=E;obtain rfl:y=y':=by simpa using e'
    conv=>whnf
    intro p hp;exact Qel.new E hp
   obtain⟨_,x,rfl,-⟩:=G;refine⟨_,i,⟨rfl,rfl,hi2⟩,Yql τ (.slice aA A1.length cA) [(x,XA),(y,XO)],Yql.m2,Yql.f2,λ U' E=>?_,λ v G=>?_⟩
   .obtain⟨x',e',E⟩:=E;obtain rfl:x=x':=by simpa using e'
    conv=>whnf
    exact⟨_,E.at S1 eA,_,.refl _,rfl,E⟩
   obtain⟨_,rfl,-⟩:=G;refine⟨Yql τ (.slice aO O7.length cO) [(x,XA),(y,XO)],Yql.m2,Yql.f2,λ U' E=>?_,λ v G=>?_⟩
   .obtain⟨-,E⟩:=E
    conv=>whnf
    exact⟨_,E.at S1 eO,_,.refl _,rfl,E⟩
   obtain⟨_,rfl,-⟩:=G;rotate_left
   refine⟨_,⟨rfl,hb.rdT λ _ _ h=>h⟩,Yqa τ XO [],Yqa.m2,Yqa.f2,λ U' E=>?_,λ v G=>?_⟩
   .conv=>whnf
    intro p hp;exact Qel.new ⟨nofun,E⟩ hp
   obtain⟨_,y,rfl,-⟩:=G;refine⟨_,i,⟨rfl,rfl,hi2⟩,Yqa τ XA [(y,XO)],Yqa.m2,Yqa.f2,λ U' E=>?_,λ v G=>?_⟩
   .obtain⟨y',e',E⟩:=E;obtain rfl:y=y':=by simpa using e'
    conv=>whnf
    intro p hp;exact Qel.new E hp
   obtain⟨_,x,rfl,-⟩:=G;refine⟨_,i,⟨rfl,rfl,hi2⟩,Yql τ (.slice aO O7.length cO) [(x,XA),(y,XO)],Yql.m2,Yql.f2,λ U' E=>?_,λ v G=>?_⟩
   .obtain⟨x',e',E⟩:=E;obtain rfl:x=x':=by simpa using e'
    conv=>whnf
    exact⟨_,E.at S1 eO,_,.refl _,rfl,E⟩
   obtain⟨_,rfl,-⟩:=G;refine⟨Yql τ (.slice aA A1.length cA) [(x,XA),(y,XO)],Yql.m2,Yql.f2,λ U' E=>?_,λ v G=>?_⟩
   .obtain⟨-,E⟩:=E
    conv=>whnf
    exact⟨_,E.at S1 eA,_,.refl _,rfl,E⟩
   obtain⟨_,rfl,-⟩:=G;rotate_left
   refine⟨_,⟨rfl,hb.rdT λ _ _ h=>h⟩,Yqa τ XO [],Yqa.m2,Yqa.f2,λ U' E=>?_,λ v G=>?_⟩
   .conv=>whnf
    intro p hp;exact Qel.new ⟨nofun,E⟩ hp
   obtain⟨_,y,rfl,-⟩:=G;refine⟨_,i,⟨rfl,rfl,hi2⟩,Yql τ (.slice aO O7.length cO) [(y,XO)],Yql.m2,Yql.f2,λ U' E=>?_,λ v G=>?_⟩
   .obtain⟨y',e',E⟩:=E;obtain rfl:y=y':=by simpa using e'
    conv=>whnf
    exact⟨_,E.at S1 eO,_,.refl _,rfl,E⟩
   obtain⟨_,rfl,-⟩:=G;refine⟨Yqa τ XA [(y,XO)],Yqa.m2,Yqa.f2,λ U' E=>?_,λ v G=>?_⟩
   .obtain⟨-,E⟩:=E
    conv=>whnf
    intro p hp;exact Qel.new E hp
   obtain⟨_,x,rfl,-⟩:=G;refine⟨_,i,⟨rfl,rfl,hi2⟩,Yql τ (.slice aA A1.length cA) [(x,XA),(y,XO)],Yql.m2,Yql.f2,λ U' E=>?_,λ v G=>?_⟩
   .obtain⟨x',e',E⟩:=E;obtain rfl:x=x':=by simpa using e'
    conv=>whnf
    exact⟨_,E.at S1 eA,_,.refl _,rfl,E⟩
   obtain⟨_,rfl,-⟩:=G;rotate_left
   all_goals
    refine⟨λ v U'=>Zp8 U' v (t.prs ⟨e,n,A1,O7⟩)/\τ.le U',λ v K S F w=>⟨F.1.le w,F.2.trans w⟩,λ v U' F=>⟨F.2.imm,Zz3,F.2.tok⟩,λ U' E=>?_,λ v G=>?_⟩
    .obtain⟨-,-,E⟩:=E;refine⟨Zlp.any,(Qvr h t (ht.lg E.frz2) hf e n he (iA.lg E.frz2) ai (iO.lg E.frz2) aj hM.1 hM.2).mono ?_⟩;rintro v U''⟨G,H⟩-;exact⟨U'',.refl _,G,E.trans H⟩
    obtain⟨_,⟨_,rfl,a9,c9,rfl,-⟩,-⟩:=G
    conv=>whnf
    rintro U'⟨⟨_,e',G⟩,hl⟩;cases e';exact⟨rfl,_,T1,G,hl⟩
  rintro f' a0 U9⟨rfl,_,ah,⟨a9,c9,rfl,-,-⟩,h9⟩;rw[<- ah.ovr];clear ah i1 i2 i5 i6 iA iO eA eO V;have w:=w.trans h9;have ae:=af.trans h9
  conv=>whnf
  intro a' ac;refine⟨by rw[ac.size,aa.size],_,ac.get,?_⟩;rw[ac.ds];clear ac aa;generalize(t.prs ⟨e,n,A1,O7⟩)=L at hB ⊢
  conv=>whnf
  intro br ah;refine Zl ah λ Ua ga aw=>?_;have aw:Zi Ua br #[.string ⟨#[111,110,101]⟩,.string ⟨#[116,119,111]⟩]:=aw;have w:=w.trans ga;have ae:=ae.trans ga
  conv=>whnf
  intro b7 b6;refine⟨_,.refl _,rfl,HO (vs:=[.slice (some ⟨br,0,none⟩) 2 2,.nl]) rfl Zz1 ?_⟩
  repeat refine⟨rfl,?_⟩
  conv=>whnf
  refine Zt7 (λ f' U'=>∃ca cc,Xx f' [(5,.pb b),(11,.int .i64 e),(12,.int .i64 n),(13,.slice W A.length c1),(14,.slice Z O.length c2),(19,.slice a5 P.length c5),(20,.slice a6 Q.length c6),(22,.int .i64 i),(23,.slice a9 L.length c9),(24,.int .i64 0),(25,.pb b7)]/\U'.M=.cl b7 [.slice (some ⟨br,0,none⟩) 2 2,.slice ca (bif B then 1 else 0) cc] 38::Ua.M/\Ua.frz.lg U'.frz/\Q7 U'.frz ca (bif B then 1 else 0) 4 (agB B).cs (V3 U'.frz)) ?_ (λ hc N eN hn=>?_) (λ hc=>?_)
  rotate_left
  .have hBt:B=true:=by
    cases L with
    |nil=>simp at hc
    |cons _ _=>exact hB
   subst hBt;rw[eN];clear eN hB
   conv=>whnf
   intro bz am;refine Zl am λ Ub gb am=>?_;have am:Zi Ub bz #[.int .i64 0]:=am
   conv=>whnf
   intro bg ak;refine Zl ak λ Uc gc ak=>?_;have ak:Zi Uc bg #[.slice (some ⟨bz,0,none⟩) 1 1]:=ak
   conv=>whnf
   intro bn al;refine Zl al λ Ud gd al=>?_;have al:Zi Ud bn #[.string ⟨#[111,112,112]⟩,.int .i64 1,.slice (some ⟨bg,0,none⟩) 1 1,.nl]:=al;refine⟨rfl,WN (i:=1) (v:=.slice (some ⟨bn,0,none⟩) 1 1) (c:=[.slice (some ⟨br,0,none⟩) 2 2,.nl].toArray) (e:=38) (M₀:=Ua.M) [] (by rw[gd.own,gc.own,gb.own];rfl) (by show 1<2;omega) rfl λ Ue hI b3 bv=>?_⟩;have gz:=(gb.trans gc).trans gd;have cs:=Zuz (U:=Ud.frz) (((am.le gc).le gd).imI λ _ _ h=>h) ((ak.le gd).imI λ _ _ h=>h) (al.imI λ _ _ h=>h);have gl:Ud.frz.lg Ue.frz:=⟨λ x o hx=>by show Ue.I x=_;rw[hI];exact hx,⟨[],rfl⟩,by show Ue.tok=_;rw[b3];rfl⟩
   conv=>whnf
   exact hn _ _ ⟨_,1,T1,bv,⟨λ x o hx=>gl.imm x o (gz.imm x o hx),⟨[],rfl⟩,gl.tok.trans gz.tok⟩,cs.lg gl λ _ _ h=>h.lg gl⟩
  .have hBf:B=false:=by
    cases L with
    |nil=>exact hB
    |cons _ _=>
     have:¬(0:Int)<((List.length (_::_):Nat):Int):=of_decide_eq_false hc;simp at this
   subst hBf;exact⟨none,0,T1,rfl,⟨λ _ _ h=>h,⟨[],rfl⟩,rfl⟩,rfl,λ i x hx=>by cases hx⟩
  rintro f' Uc⟨ca,cc,ah,bb,bj,bh⟩;rw[<- ah.ovr];clear ah
  conv=>whnf
  intro act aa;refine Zup (mu:=[]) (dets:=[]) aa Qf K1 λ hw=>?_;obtain⟨χ,q1,q2,q3,y1,y2,y3,ey,-,bf,-⟩:=(Jo.ofBlk (e:=38) (n:=2) (b:=b7) (len:=1) (cap:=1) (cs:=[.slice (some ⟨br,0,none⟩) 2 2,.slice ca (bif B then 1 else 0) cc]) (c:=[Value.slice (some ⟨br,0,none⟩) 2 2,.slice ca (bif B then 1 else 0) cc].toArray) rfl (Nat.le_refl _) rfl (λ i x hx=>by simpa using hx)).freeze (Ya hw) (by rw[bb];exact Perm.refl (_::Ua.M));cases ey
  have ao:Je χ.frz ⟨b7,0,none⟩ [.slice (some ⟨br,0,none⟩) 2 2,.slice ca (bif B then 1 else 0) cc]:=by
   rcases bf with⟨h,_⟩|⟨ad,e,h⟩
   .cases h
   .cases e;exact h
  have az:Ua.frz.lg χ.frz:=bj.trans q3;have bs:Ua.le χ:=⟨az.imm,q2,az.tok⟩;have w:=w.trans bs;have ae:=ae.trans bs;obtain⟨f1,f2,f3,f4⟩:=Zum B
  have ag:Zr χ.frz ⟨some ⟨br,0,none⟩,2,2,ca,bif B then 1 else 0,cc⟩ (agB B):=by
   refine⟨Zu0 ((aw.imI λ x o hx=>az.imm x o hx)) B,bh.lg q3 λ _ _ h=>h.lg q3,by show 2<2^60;decide,by show(bif B then 1 else 0)<2^60;cases B <;> decide,by cases B <;> decide,by cases B <;> decide⟩
  have bi:JU χ:=hk.lg w.lg;refine⟨χ,q1,?_⟩;clear q1 bf bh bj hw bb;refine⟨_,⟨rfl,ao.lg Qr⟩,xZ.any,(Zhy _ (agB B) ag bi f1 1 (by show 1<2;omega)).go λ _=>?_⟩
  conv=>whnf
  intro a' ac;refine⟨by rw[ac.size,aa.size],_,ac.get,?_⟩;rw[ac.ds];clear ac aa;refine⟨_,⟨rfl,ao.lg Qr⟩,UN.any,(Cg _ (agB B) ag bi 1).mono ?_⟩;rintro _ ψ⟨⟨_,rfl,wa,wc,rfl,-⟩,hw⟩-;have ae:=ae.trans hw;rw[f2,f3,f4]
  have bu:(L.length=0/\B=false)\/((∃m,L.length=m+1)/\B=true):=by
   cases L with
   |nil=>exact .inl ⟨rfl,hB⟩
   |cons _ l=>exact .inr ⟨⟨l.length,rfl⟩,hB⟩
  clear hB ag f1 f2 f3 f4;have ao:=(ao.lg Qr).lg hw.lg;have ay:=ao.cell (i:=1) rfl;obtain⟨b1,rfl⟩|⟨⟨m,hm⟩,rfl⟩:=bu
  .rw[b1];obtain rfl|rfl:i=0\/i=1:=O1
   .repeat refine⟨rfl,?_⟩
    refine⟨_,ay,?_⟩
    repeat refine⟨rfl,?_⟩
    refine⟨ax,?_⟩
    conv=>whnf
    exact⟨rfl,1,T1,⟨ae,D1⟩,D1⟩
   .repeat refine⟨rfl,?_⟩
    refine⟨_,ay,?_⟩
    repeat refine⟨rfl,?_⟩
    refine⟨ax,?_⟩
    conv=>whnf
    exact⟨rfl,2,T1,⟨ae,D1⟩,D1⟩
  .rw[hm]
   obtain rfl:i=0:=by
    have:¬i=1:=λ h=>by cases bt h
    omega
   repeat refine⟨rfl,?_⟩
   conv=>whnf
   rw[show decide (((m+1:Nat):Int) > 0)=true from decide_eq_true O1]
   repeat refine⟨rfl,?_⟩
   refine⟨_,ay,?_⟩
   repeat refine⟨rfl,?_⟩
   refine⟨ax,?_⟩
   conv=>whnf
   exact⟨rfl,1,T1,⟨ae,D1⟩,D1⟩
 .refine⟨gY.any,(fin _ w.lg).go λ _=>?_⟩
  repeat refine⟨rfl,?_⟩
  conv=>whnf
  exact w.lg
