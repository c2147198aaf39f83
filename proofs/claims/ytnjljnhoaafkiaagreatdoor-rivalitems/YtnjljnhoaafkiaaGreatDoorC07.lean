/- Lemmas. No conditions. -/
import Derived.Test.YtnjljnhoaafkiaaGreatDoorC06
import Derived.Test.YtnjljnhoaafkiaaGreatDoorC01
import Derived.Test.YtnjljnhoaafkiaaGreatDoorB40
set_option linter.all false
set_option maxRecDepth 100000
open List
namespace Go.TM
variable{T:Type}{P:Program}{S:Sys P T}{U:Qa T}
def Qb.okd{f:FuncId}{args:Array Value}{R R':Value->Qa T->Prop}(h:Qb S f args R U)(z:∀v U' w,U'.ok w->R v U'->∃U'',Qv U' U''/\R' v U''):Qb S f args R' U:=by
 intro Stop m c cs k;refine h Stop m c cs λ v U' r=>?_;by_cases b:∃w,U'.ok w
 .obtain⟨w,hw⟩:=b;obtain⟨U'',h1,h2⟩:=z v U' w hw r;exact .shift h1 (k v _ h2)
 .exact .priv ⟨rfl,λ w ok=>absurd ⟨w,ok⟩ b⟩
def Jo.intsV{v:Value}{l:List Int}{A R:List Qw}{I:Nat->Option Obj}{k:T}(h:Jo 3 1 v (l.map λ n=>.int .i64 n) A){w:World}(ok:(⟨I,A++R,k⟩:Qa T).ok w) :
  ∃U'':Qa T,Qv ⟨I,A++R,k⟩ U''/\U''.ok w/\(∀x o,I x=some o->U''.I x=some o)/\U''.M=R/\U''.tok=k/\Jw U''.frz v l:=by
 obtain⟨U'',B,z,a,len,cap,rfl,hl,b,f,_⟩:=Acc.freeze (U:=⟨I,R,k⟩) (U':=⟨I,A++R,k⟩) ok.sep (h R) (λ _ _ h=>h) rfl;simp at hl;exact⟨U'',B,(B.2 w ok).1,z.imm,z.own,z.tok,a,cap,by rw[hl],KS b f⟩
def Qb.listedG{f:FuncId}{args:Array Value}{G:Value->Value}{R:List Int->Prop}
  (h:Qb S f args (λ v U'=>∃b l A X,v=G b/\R l/\U'.M=A++(X++U.M)/\Jo 3 1 b (l.map λ n=>.int .i64 n) A/\(∀x o,U.I x=some o->U'.I x=some o)/\U'.tok=U.tok) U) :
  Qb S f args (λ v U'=>(∃b l,v=G b/\R l/\JT U'.frz b l)/\U.le U') U:=by
 refine h.okd λ v U' w ok⟨b,l,A,X,N,K,H,z,F,ht⟩=>?_;have B:Qv U' { U' with M:=A++U.M }:=Zx (by rw[H];exact(Sublist.refl _).append (sublist_append_right ..));obtain⟨E,W,T,P,Q,Y,V⟩:=z.intsV (B.2 w ok).1;obtain⟨a,c,rfl,L⟩:=V;exact⟨E,B.trans W,⟨_,l,N,K,a,c,rfl,L,(z []).cap _ _ _ rfl⟩,λ x o h=>P x o (F x o h),Q,Y.trans ht⟩
end Go.TM
namespace Go.TM
def Zt5{n:Nat}(h:n<256):IntKind.wrap .u8 (n:Int)=n:=by
 have b:(2:Int)^8=256:=D1
 simp only[IntKind.wrap,IntKind.bits,IntKind.signed,Bool.false_and,b];simp;omega
def Zua(u c:Nat)(E:u<256)(B:c<8):IntKind.wrap .u8 (BitVec.ofInt (IntKind.bits .u8) ((u:Int).fdiv (2^(min (c:Int).toNat (IntKind.bits .u8))))&&&BitVec.ofInt (IntKind.bits .u8) 1).toNat=if u.testBit c then 1 else 0:=by
 show IntKind.wrap .u8 (BitVec.ofInt 8 ((u:Int).fdiv (2^(min (c:Int).toNat 8)))&&&BitVec.ofInt 8 1).toNat=_;have f:min (c:Int).toNat 8=c:=S3
 have w:(u:Int).fdiv (2^c)=((u / 2^c:Nat):Int):=by
  rw[Int.fdiv_eq_ediv_of_nonneg _ (by exact Int.pow_nonneg D1)];simp
 rw[f,w,BitVec.ofInt_natCast,show(BitVec.ofInt 8 1)=BitVec.ofNat 8 1 from rfl];have b:u / 2^c<2^8:=Nat.lt_of_le_of_lt (Nat.div_le_self ..) O1
 have z:(BitVec.ofNat 8 (u / 2^c)&&&BitVec.ofNat 8 1).toNat=u / 2^c % 2:=by
  rw[BitVec.toNat_and,BitVec.toNat_ofNat,BitVec.toNat_ofNat,Nat.mod_eq_of_lt b,show 1 % 2^8=1 from rfl,Nat.and_one_is_mod]
 rw[z,Zt5 O1,Nat.testBit_eq_decide_div_mod_eq];by_cases h:u / 2^c % 2=1
 .simp[h]
 .have:u / 2^c % 2=0:=O1
  simp[this]
def WJ.edOf(t:WJ)(u:Nat):Int:=((u % t.eds.length:Nat):Int)
def WJ.isEd_of{t:WJ}(hf:t.flaw=0)(u:Nat):t.isEd (t.edOf u)=true:=by
 have b:=WJ.flaw_eds hf;have:=Nat.mod_lt u (y:=t.eds.length) O1;unfold WJ.isEd QP WJ.edOf;simp only[Bool.and_eq_true,decide_eq_true_eq];omega
def Zsp{n c:Nat}(h:c<n)(p:Int->Bool):(Qzz (c+1)).filter p=(Qzz c).filter p++(if p (c:Int)then[(c:Int)]else[]):=by
 rw[Zso,filter_append,filter_cons,filter_nil]
end Go.TM
namespace Go.Proofs
open Go.TM
variable{T:Type}{S:TM.Sys Tryz.prog T}{U:Qa T}
attribute [local irreducible] Qb Zm Wo
def Zql(h:TH)(t:WJ)(ht:GG U h t):Qb S 5 #[h.v] (λ v U'=>(∃B:Bool,v=.bool B/\(B=true->t.flaw=0))/\U'=U) U:=by
 refine Qb.pure' (Qb.of (args:=[_]) Zr0 Qe S1 ?_)
 repeat refine⟨rfl,?_⟩
 conv=>whnf
 intro b E f hb;have hb:Zi E b #[.slice h.ea h.el h.ec,.slice h.ma h.ml h.mc,.slice h.ka h.kl h.kc]:=hb;have w:=ht.lg f.lg;refine⟨_,⟨rfl,hb.rdT λ _ _ h=>h⟩,Zqn.any,(Zqk h t w).mono ?_⟩;rintro _ U'⟨⟨B,rfl⟩,z⟩-;obtain rfl:=z.symm
 repeat refine⟨rfl,?_⟩
 conv=>whnf
 apply Jt<;>intro F
 .refine⟨_,⟨rfl,hb.rdT λ _ _ h=>h⟩,Zqo.any,(Zka h t w).go λ _=>?_⟩
  repeat refine⟨rfl,?_⟩
  conv=>whnf
  exact⟨⟨_,rfl,λ h=>by simpa using h⟩,f.lg⟩
 .repeat refine⟨rfl,?_⟩
  conv=>whnf
  exact⟨⟨_,rfl,λ h=>by cases h⟩,f.lg⟩
def Qvz(h:TH)(t:WJ)(ht:GG U h t)(hf:t.flaw=0)(e:Int)(hed:t.isEd e=true)(u:Nat)(hu:u<256):Qb S 7 #[h.v,.int .i64 e,.int .u8 u] (λ v U'=>(∃V m,v=V/\m=t.chosen e u/\JT U'.frz V m)/\U.le U') U:=by
 refine Qb.listedG (G:=λ V=>V) (R:=λ m=>m=t.chosen e u) (Qb.of (args:=[_,_,_]) Zqa Qe S1 ?_);obtain⟨T,W,ia,il,ic,rfl,ae,ab,af,ad⟩:=WJ.isEd_at ht hed;have ac:(t.items (T:Int)).length=il:=ad.1;have h8:=WJ.ni8 hf (T:Int);unfold WJ.ni at h8
 repeat refine⟨rfl,?_⟩
 conv=>whnf
 intro b U1 z hb;have hb:Zi U1 b #[.slice h.ea h.el h.ec,.slice h.ma h.ml h.mc,.slice h.ka h.kl h.kc]:=hb
 refine⟨Nat×Value,λ y=>[(1,.int .i64 (T:Int)),(2,.int .u8 u),(3,.pointer (some ⟨b,0,none⟩)),(7,y.2),(8,.int .i64 y.1)],
  λ y U'=>U1.lg U'/\(∀x o,U.I x=some o->U'.I x=some o)/\U'.tok=U.tok/\Acc 3 1 y.2 (((Qzz y.1).filter λ n=>u.testBit n.toNat).map λ n=>.int .i64 n) U'.M U.M/\y.1<=il,λ y=>il-y.1,(0,.slice none 0 0),T1,⟨(Qa.le.refl _).lg,z.imm,z.tok,by rw[z.own];exact .nil,S1⟩,?_⟩
 rintro⟨c,v⟩f U2⟨w,Z,L,ha,hi⟩;simp only at ha hi;have ag:=length_filter_le (λ n:Int=>u.testBit n.toNat) (Qzz c);have ah:(Qzz c).length=c:=by unfold Qzz;simp
 obtain⟨sa,sc,rfl,-⟩:=Sv ha;refine⟨_,(hb.lg w).sees3 (o:=0) rfl,W,T,⟨ab,rfl,ae⟩,_,af.lg (z.lg.trans w),?_⟩
 repeat refine⟨rfl,?_⟩
 conv=>whnf
 apply Qg<;>intro K
 .have hlt:c<il:=by simpa using K
  have Q:Z7 ((c:Int)+1):=I1
  have H:=Zsp hlt λ n=>u.testBit n.toNat
  repeat refine⟨rfl,?_⟩
  refine⟨by simp only;omega,?_⟩
  repeat refine⟨rfl,?_⟩
  conv=>whnf
  rw[Zua u c hu O1];apply Qg<;>intro K
  .have hyes:u.testBit c=true:=by
    apply Classical.byContradiction;intro hn;rw[if_neg hn]at K;simp at K
   rw[if_pos (by simpa using hyes)]at H
   conv=>whnf
   intro X P;refine Zh P λ U5 B F=>?_;have F:Zi U5 X #[.int .i64 (c:Int)]:=F
   conv=>whnf
   refine Wn (v:=.slice sa _ sc) (cs:=((Qzz c).filter λ n=>u.testBit n.toNat).map λ n=>.int .i64 n) (new:=[.int .i64 (c:Int)]) (M₀:=U.M) H2 rfl rfl (by rw[B.own];exact ha) (.inr ⟨_,rfl,F.rd⟩) rfl (by simp[Value.single]) S3 λ v' M' aa _=>?_;have E:Acc 3 1 v' (((Qzz (c+1)).filter λ n=>u.testBit n.toNat).map λ n=>.int .i64 n) M' U.M:=by rw[H];simpa using aa
   obtain⟨ta,tc,rfl,-⟩:=Sv (U:={ U5 with M:=M' }) E;obtain⟨A',Y⟩:=E.own;refine⟨Q,?_⟩
   conv=>whnf
   exact⟨rfl,(c+1,.slice ta _ tc),T1,⟨⟨λ x o h=>B.imm x o (w.imm x o h),⟨A',by rw[z.own];exact Y⟩,B.tok.trans w.tok⟩,λ x o h=>B.imm x o (Z x o h),B.tok.trans L,E,by simp only;omega⟩,L1⟩
  .have hno:u.testBit c=false:=by
    apply Classical.byContradiction;intro hn;rw[if_pos (by simpa using hn)]at K;simp at K
   rw[if_neg (by simp[hno])]at H;rw[append_nil]at H;refine⟨Q,?_⟩
   conv=>whnf
   exact⟨rfl,(c+1,.slice sa _ sc),T1,⟨w,Z,L,by rw[H];exact ha,by simp only;omega⟩,L1⟩
 .have hge:il<=c:=by simpa using K
  obtain rfl:c=il:=O1
  obtain⟨A,hA,N⟩:=ha.split
  repeat refine⟨rfl,?_⟩
  conv=>whnf
  exact⟨_,_,A,[],rfl,by unfold WJ.chosen WJ.ni;rw[ac],hA,N,Z,L⟩
end Go.Proofs
namespace Go.TM
def Qa.le.frz2{T:Type}{U U':Qa T}(h:U.le U'):U.frz.lg U'.frz:=⟨h.imm,⟨[],rfl⟩,h.tok⟩
def Zt1{T:Type}(U:Qa T)(v:Value)(l:List Int):Prop:=∃a c,v=.slice a l.length c/\Z6 U.frz a l.length l
end Go.TM
namespace Go.Proofs
open Go.TM
variable{T:Type}{S:TM.Sys Tryz.prog T}{U:Qa T}
attribute [local irreducible] Qb Zm Wo
section
variable(h:TH)(t:WJ)(ht:GG U.frz h t)(hf:t.flaw=0)
include ht hf
def Zmb(e:Int)(hed:t.isEd e=true)(u:Nat)(w:u<256):Qb S 7 #[h.v,.int .i64 e,.int .u8 u] (λ v U'=>Zt1 U' v (t.chosen e u)/\U.le U') U:=by
 refine(Qvz h t (ht.lg Qr) hf e hed u w).mono ?_;rintro v U'⟨⟨_,_,rfl,rfl,f⟩,b⟩;exact⟨f.v,b⟩
def Zmh(e:Int)(hed:t.isEd e=true)(u:Nat)(w:u<256):Qb S 7 #[h.v,.int .i64 e,.int .u8 u] (λ v U'=>JT U'.frz v (t.chosen e u)/\U.le U') U:=by
 refine(Qvz h t (ht.lg Qr) hf e hed u w).mono ?_;rintro v U'⟨⟨_,_,rfl,rfl,f⟩,b⟩;exact⟨f,b⟩
def Zp7(e:Int)(hed:t.isEd e=true){a ca:Option Addr}{cap cl cc:Nat}{l:List Int}{cs:List Qek}(hl:Z6 U.frz a l.length l)(hL:t.Lst e l)(b:Qz0 U.frz ca cl cs)(B:cs.length<=4)(E:∀c∈cs,t.Lst e c.items) :
  Qb S 11 #[h.v,.int .i64 e,.slice a l.length cap,.slice ca cl cc] (λ v U'=>(∃f,v=.tuple #[f,.int .i64 0]/\Zt1 U' f (l.filter (Q4b cs)))/\U.le U') U:=by
 have z:=WJ.cutF_of hf hed hL B E;have H:=hL.len hf;have F:=b.1;have k:=Zqj (S:=S) h t (ht.lg Qr) e a ca l.length cap cl cc l cs (hl.lg Qr) b O1 O1;rw[z,WJ.cutL_of z]at k;refine k.mono ?_;rintro v U'⟨⟨f,rfl,G⟩,w⟩;exact⟨⟨f,rfl,G⟩,w⟩
end
section
variable{a a':Option Addr}{cap cap':Nat}{l m:List Int}(hl:Z6 U.frz a l.length l)(hm:Z6 U.frz a' m.length m)(h1:l.length<=1000)(h2:m.length<=1000)
include hl hm h1 h2
def Zpf:Qb S 12 #[.slice a l.length cap,.slice a' m.length cap'] (λ v U'=>v=.bool (decide (l=m))/\U'=U) U:=by
 have _:=h2;exact GZ a a' _ cap _ cap' _ _ (hl.lg Qr) (hm.lg Qr) O1
def Zph(b:l=m):Qb S 12 #[.slice a l.length cap,.slice a' m.length cap'] (λ v U'=>v=.bool true/\U'=U) U:=by
 have k:=Zpf (S:=S) (cap:=cap) (cap':=cap') hl hm h1 h2;rw[decide_eq_true b]at k;exact k
end
end Go.Proofs
namespace Go.TM
section
variable{T:Type}{U U':Qa T}
end
def Qz0.one{T:Type}{U:Qa T}{b:Nat}{a:Option Addr}{cap:Nat}{l:List Int}{keep:Bool}(hb:Zi U b #[.slice a l.length cap,.bool keep])(h:Z6 U a l.length l)(k:l.length<2^60):Qz0 U (some ⟨b,0,none⟩) 1 [⟨l,keep⟩]:=by
 refine⟨rfl,λ i x hx=>?_⟩;obtain rfl:i=0:=by have:=(List.getElem?_eq_some_iff.1 hx).1;simp at this;omega
 cases hx;refine⟨_,_,rfl,rfl,⟨a,l.length,cap,rfl,h,k⟩,rfl,λ i v f=>?_⟩
 match i,f with
 |0,f=>simp at f;subst f;rw[Nat.zero_mul,Qo,Qo];exact hb.sees rfl
 |1,f=>simp at f;subst f;rw[Nat.zero_mul,Qo,Qo];exact hb.sees rfl
 |i+2,f=>simp at f
def Zi.frz{T:Type}{U:Qa T}{b:Nat}{c:Array Value}(h:Zi U b c):Zi U.frz b c:=h
def Zt9{T:Type}(U:Qa T)(v:Value)(l:List (Int×Int)):Prop:=∃a c,v=.slice a l.length c/\l.length<=c/\Zp6 U.frz a l.length l
def Zt8{T:Type}(U:Qa T)(v:Value)(l:List (Int×Int)):Prop:=∃b,v=.tuple #[b,.int .i64 0]/\Zt9 U b l
def Zrk(l m:List Int):l.filter (Q4b [⟨m,false⟩])=Zf5 l m:=by
 unfold Zf5;refine filter_congr λ n _=>?_;simp[Q4b,Qek.lets]
end Go.TM
namespace Go.Proofs
open Go.TM
variable{T:Type}{S:TM.Sys Tryz.prog T}{U:Qa T}
attribute [local irreducible] Qb Zm Wo
section
variable(h:TH)(t:WJ)(ht:GG U.frz h t)(hf:t.flaw=0)(e lv:Int)(hed:t.isEd e=true){a a':Option Addr}{cap cap':Nat}{l l':List Int}(hl:Z6 U.frz a l.length l)(hL:t.Lst e l)(hl':Z6 U.frz a' l'.length l')(hL':t.Lst e l')(h1:1<=lv)(h5:lv<=5)
include ht hf hed hl hL hl' hL' h1 h5
def Zbk:Qb S 8 #[h.v,.int .i64 e,.slice a l.length cap,.slice a' l'.length cap',.int .i64 lv] (λ v U'=>Zt8 U' v (t.prs ⟨e,lv,l,l'⟩)/\U.le U') U:=by
 have w:=WJ.talk_of hf hed hL hL' h1 h5;have F:=hL.len hf;have G:=hL'.len hf;have k:=Zo1 (S:=S) h t ht e lv a a' l.length cap l'.length cap' l l' hl hl' O1 O1;rw[w]at k;refine k.mono ?_;rintro v U'⟨⟨H,_,rfl,rfl,E,pc,rfl,b,z⟩,f⟩;have B:t.pairsL e l l' lv=t.prs ⟨e,lv,l,l'⟩:=by unfold WJ.pairsL;rw[if_pos w];rfl
 rw[B]at b z ⊢;exact⟨⟨_,rfl,E,pc,rfl,b,z⟩,f⟩
end
end Go.Proofs
namespace Go.TM
variable{T:Type}{P:Program}{S:Sys P T}{U U':Qa T}
def Zt4(n m:Nat):(n:Int).tmod (m:Int)=((n % m:Nat):Int):=by rw[Int.tmod_eq_emod_of_nonneg O1];rfl
def Zcp{fn:FuncId}{ro:Option Nat}{N:Nat}{mu dets:List Nat}{c:Code}{c':C}{Q:Ex->Act->Qa T->Prop}{a:Act}{f:Fm}{ds:List Deferred}(hf:FR N a f ds)(hm:P.follows .mixedOrders=true)(F:clean P mu N dets c=c')
  (h:(∃w,U.ok w)->∃b,Qv U b/\ZY S fn ro c' (λ f ds U=>∀a',FR N a' f ds->Q .normal a' U) (λ _ _ _ _=>False) (λ _ _ _=>False) f ds b):Zq S fn ro c Q a U:=
 Zpe λ H=>by
  obtain⟨b,G,h⟩:=h H;refine vx G (Zq.mono (G6 (mu:=mu) (dets:=dets) (n:=λ f ds U=>∀a',FR N a' f ds->Q .normal a' U) (x:=λ _ _ _ _=>False) (r:=λ _ _ _=>False) hm c hf (by rw[F];exact h)) ?_);rintro e a' U'⟨I,E,z,B⟩;cases e with
  |normal=>exact B a' z
  |exit i=>exact B.elim
  |ret=>exact B.elim
def Zsk{a:Option Addr}{len cap m:Nat}{l:List Int}(h:Z6 U a len l)(hm:m<=len)(f:0<m)(w:len<=cap):Z6 U (if cap=0 then a else a.map (·.add (0*1))) (l.take m).length (l.take m):=by
 refine⟨rfl,λ k x hx=>?_⟩;rw[getElem?_take]at hx;split at hx
 .obtain⟨ad,rfl,hsp,hv⟩:=h.2 _ x hx;rw[if_neg O1];refine⟨ad.add (0*1),rfl,?_,?_⟩
  .obtain⟨b,o,s⟩:=ad;cases hsp;rw[Qo]
  .rw[ku _ hsp,<- Nat.add_mul,Nat.zero_add];exact hv
 .cases hx
def Zrf:("owner".toUTF8:ByteArray)=⟨#[111,119,110,101,114]⟩:=by decide +kernel
def Zsm(c:UInt8):(⟨#[105,116,101,109]⟩:ByteArray)++ByteArray.empty.push c = "item".toUTF8.push c:=by
 have h:("item".toUTF8:ByteArray)=⟨#[105,116,101,109]⟩:=by decide +kernel
 rw[h];rfl
def Zsq(c:UInt8):(⟨#[111,112,112]⟩:ByteArray)++ByteArray.empty.push c = "opp".toUTF8.push c:=by
 have h:("opp".toUTF8:ByteArray)=⟨#[111,112,112]⟩:=by decide +kernel
 rw[h];rfl
def Zq6(s:ByteArray):List Value:=[.string s]
def Zp2(l:List ByteArray):(l.flatMap Zq6).length=l.length:=by
 induction l with
 |nil=>rfl
 |cons a l b=>rw[flatMap_cons,length_append,b];simp[Zq6];omega
structure Itm(U:Qa T)(M₀:List Qw)(b:Nat)(rs:List ByteArray)(cs:List Cs)(st:List Int)(v:Value):Prop where
 ex:∃(rv cv:Value)(R C Z:List Qw)(rows:List (List Value)),Qn9 U rows cs/\Jo 9 1 rv (rs.flatMap Zq6) R/\Jo 44 4 cv rows.flatten C/\Jo 3 1 v (st.map λ n=>.int .i64 n) Z/\U.M.Perm (R++(C++(Z++.obj b (.cells [rv,cv].toArray 38 (0,0))::M₀)))
def Itm.le{M₀:List Qw}{b:Nat}{rs:List ByteArray}{cs:List Cs}{st:List Int}{v:Value}(h:Itm U M₀ b rs cs st v)(k:U.le U'):Itm U' M₀ b rs cs st v:=by
 obtain⟨B,f,R,C,Z,rows,h1,h2,w,z,h5⟩:=h;exact⟨B,f,R,C,Z,rows,h1.lg k.lg.frz2,h2,w,z,by rw[k.own];exact h5⟩
def Ztl(R C Z B:List Qw):Perm (R++(C++(Z++B))) (Z++(R++(C++B))):=
 (Perm.append_left R (perm_append_comm_assoc C Z B)).trans (perm_append_comm_assoc R Z _)
def Zrr{U:Qa T}{nm:ByteArray}{f b:Nat}(z:Zi U f #[.int .i64 0])(h:Zi U b #[.slice (some ⟨f,0,none⟩) 1 1])(k:Nat)(w:nm=(Qdf k).nm):P_ U (Qdf k) [.string nm,.int .i64 ((k:Int)+1),.slice (some ⟨b,0,none⟩) 1 1,.slice none 0 0]:=by
 subst w;refine⟨_,_,_,_,_,_,rfl,Wx.one h ⟨rfl,λ i x hx=>?_⟩ D1,D1,⟨rfl,λ i x hx=>by cases hx⟩,D1⟩
 obtain rfl:i=0:=by
  have:=(List.getElem?_eq_some_iff.1 hx).1;simp at this;omega
 obtain rfl:x=0:=by simpa using hx.symm
 exact⟨_,rfl,rfl,z.sees3 rfl⟩
def Src.lgS{a:Option Addr}{cs:List Value}(h:Src U.frz a cs)(k:U.frz.lg U'.frz):Src U'.frz a cs:=h.imp id λ⟨b,e,r⟩=>⟨b,e,r.lg k⟩
def Zp3{a:Option Addr}{l:List Int}(h:Src U a (l.map λ n=>.int .i64 n))(f:∀b,a=some b->b.spot=none):Z6 U a l.length l:=by
 refine⟨rfl,λ i x hx=>?_⟩;rcases h with⟨_,e⟩|⟨b,rfl,w⟩
 .rw[map_eq_nil_iff.1 e]at hx;cases hx
 .exact⟨b,rfl,f b rfl,by rw[Nat.mul_one];exact w i _ (by simp[hx])⟩
def Zry(k:Nat):(Qvv k).size<2^60:=by
 have h:("item".toUTF8:ByteArray)=⟨#[105,116,101,109]⟩:=by decide +kernel
 show("item".toUTF8.push _).size<_;rw[h];show 5<_;decide
def Zrx(k:Nat):(Qdf k).nm.size<2^60:=by
 have h:("opp".toUTF8:ByteArray)=⟨#[111,112,112]⟩:=by decide +kernel
 show("opp".toUTF8.push _).size<_;rw[h];show 4<_;decide
def Ztu{b:Bool}{A:Prop}{n:Zj T}{f:Fm}{ds:List Deferred}{U:Qa T}(E:Fm->Prop)(h:∀w,E w->n w ds U)(ha:b=true->∀N,n=N->(∀w,E w->N w ds U)->A)(hb:b=false->E f):CB b A (n f ds U):=
 Qg (λ e=>ha e n rfl h) λ e=>h _ (hb e)
end Go.TM
namespace Go.Proofs
open Go.TM
attribute [local irreducible] Qb Zm Wo
def Zrm:C:=(.drw [(0,.xo 75 0 17),(0,.xl 76 75),(0,.m 77 19),(1,⟨.call (.func 9) #[(.const (.string ⟨#[105,116,101,109]⟩)),(.t 77)],some 78,none,none⟩),(2,.d 79 (.bsl 9 1 #[(.string ⟨#[]⟩)] [(0,1,(.t 78))]))] [.xz 80 76 79 35,.xo 81 0 17,⟨.st 1 (.t 81) (.t 80),none,none,none⟩])
def Zrn:C:=(.reg [.m 102 18,.m 103 13,.m 104 19,.xi 105 1 103 104,.xl 106 105,.d 107 (.bsl 3 1 #[(.int .i64 0)] [(0,1,(.t 106))]),.xz 108 102 107 29,.m 18 108])
def Zro:C:=(.drw [(0,.xo 109 1 17),(0,.xl 110 109),(0,.m 111 19),(1,⟨.call (.func 9) #[(.const (.string ⟨#[111,112,112]⟩)),(.t 111)],some 112,none,none⟩),(0,.m 113 19),(0,.xa 114 113),(2,.d 115 (.bsl 3 1 #[(.int .i64 0)] [(0,1,(.ci 0))])),(2,.d 116 (.bsl 29 1 #[(.slice none 0 0)] [(0,1,(.t 115))])),(0,⟨.build #[(.string ⟨#[]⟩),(.int .i64 0),(.slice none 0 0),(.slice none 0 0)] [(0,1,(.t 112)),(1,1,(.t 114)),(2,1,(.t 116))],some 117,none,none⟩),(2,.d 118 (.bsl 44 1 #[(.string ⟨#[]⟩),(.int .i64 0),(.slice none 0 0),(.slice none 0 0)] [(0,4,(.t 117))]))] [.xz 119 110 118 36,.xo 120 1 17,⟨.st 1 (.t 120) (.t 119),none,none,none⟩])
def Zrp:C:=(.reg [.xd 122 2 17,.d 123 (.call (.func 10) #[(.t 122)]),.m 121 123,.xe 124 121 0,.xe 125 121 1,.xe 126 121 2,.m 22 124,.m 23 125,.m 16 126])
def Zrq:C:=(.reg [.xd 183 3 5,.m 184 11,.m 185 24,.m 186 14,.m 187 12,.d 188 (.call (.func 8) #[(.t 183),(.t 184),(.t 185),(.t 186),(.t 187)]),.m 182 188,.xe 189 182 0,.xe 190 182 1,.m 28 189,.m 16 190])
set_option maxHeartbeats 8000000 in
def Zte{U:Qa Tk}(b2:U.tok=⟨0,.out,none⟩)(hk:JY U)(h:TH)(t:WJ)(ht:GG U.frz h t)(ed:Nat)(hed:ed<256)(bits:Nat)(cc:bits<256)(ot:Nat)(ej:ot<256)(lv:Nat)(e6:lv<256) :
  J (Za Tryz.prog 176 6) (Fin Tryz.prog λ v U'=>v=.bool true/\U.lg U') true (Rf (Frame.enter Tryz.prog 3 #[h.v,.int .u8 ed,.int .u8 bits,.int .u8 ot,.int .u8 lv] .normal) []) U:=by
 refine Zpj (args:=[_,_,_,_,_]) (Q:=λ v U'=>v=.bool true/\U.lg U') Zts Qe K1 S1 (λ v U' q=>q.2.tok.trans b2) ?_;have fin:∀U2:Qa Tk,U.lg U2->Qb (Za Tryz.prog 176 6) 6 #[] (λ v U'=>v=.bool true/\U'=U2) U2:=λ U2 h=>Zmd (h.tok.trans b2) (hk.lg h)
 repeat refine⟨rfl,?_⟩
 conv=>whnf
 intro b U1 bl hb;have hb:Zi U1 b #[.slice h.ea h.el h.ec,.slice h.ma h.ml h.mc,.slice h.ka h.kl h.kc]:=hb;have ht:=ht.lg bl.frz2;refine⟨_,⟨rfl,hb.rdT λ _ _ h=>h⟩,Zr0.any,(Zql h t (ht.lg Qr)).mono ?_⟩;rintro _ U'⟨⟨B,rfl,hB⟩,ah⟩-;obtain rfl:=ah.symm;cases B with
 |false=>
  refine⟨kn.any,(fin _ bl.lg).go λ _=>?_⟩
  repeat refine⟨rfl,?_⟩
  conv=>whnf
  exact bl.lg
 |true=>
 have hf:t.flaw=0:=hB rfl;clear hB;have ee:=ht.eds.1;have e5:=WJ.flaw_eds hf;have dl:(h.el:Int)≠0:=O1
 have w1:IntKind.wrap .i64 (ed:Int)=(ed:Int):=ZZ O1;have w2:IntKind.wrap .i64 (lv:Int)=(lv:Int):=ZZ O1;have e1:(ed:Int).tmod (h.el:Int)=t.edOf ed:=by rw[Zt4];unfold WJ.edOf;rw[ee]
 have e2:(lv:Int).tmod 5=((lv % 5:Nat):Int):=Zt4 lv 5;have he:=WJ.isEd_of hf ed;have hM:1<=1+((lv % 5:Nat):Int)/\1+((lv % 5:Nat):Int)<=5:=O1
 conv=>whnf
 rw[w1];refine⟨_,hb.sees3 (o:=0) rfl,rfl,dl,?_⟩;rw[e1]
 conv=>whnf
 rw[w2];refine⟨rfl,D1,?_⟩;rw[e2];refine⟨I1,?_⟩;generalize 1+((lv % 5:Nat):Int)=n at hM ⊢;generalize eb:t.edOf ed=e at he ⊢;clear e1 e2 w1 w2 dl eb;have am:=t.lst_chosen e bits;have hO:=t.lst_chosen e ot;have d1:=am.len hf;have nO:=hO.len hf;refine⟨_,⟨rfl,hb.rdT λ _ _ h=>h⟩,_,⟨rfl,hb.rdT λ _ _ h=>h⟩,λ v U'=>JT U'.frz v (t.chosen e bits),λ v U1 U2 hv w=>hv.lg w.frz2,λ U' w _=>?_,λ v _=>?_⟩
 .refine⟨Zqa.any,(Zmh h t (ht.lg w.frz2) hf e he bits cc).mono ?_⟩;rintro v U''⟨hv,di⟩-;exact⟨U'',.refl _,hv,di⟩
 conv=>whnf
 intro U2 h2 hC;have dj:=bl.trans h2;have hb:=hb.le h2;have ht:=ht.lg h2.frz2;obtain⟨-,a1,c1,rfl,Y,r1⟩:=hC;refine⟨Zqa.any,(Zmb h t ht hf e he ot ej).mono ?_⟩;rintro _ U3⟨⟨a2,c2,rfl,i2⟩,h3⟩-;have dk:=dj.trans h3;have hb:=hb.le h3;have ht:=ht.lg h3.frz2;have Y:=Y.lg h3.frz2;generalize d9:t.chosen e ot=O at hO nO i2 ⊢;clear d9;generalize d5:t.chosen e bits=A0 at am d1 Y r1 ⊢;clear d5
 obtain⟨A,hA,au,nA⟩:∃A:List Int,t.Lst e A/\(A=if 5<A0.length then A0.take 5 else A0)/\A.length<=5:=by
  refine⟨_,?_,rfl,?_⟩
  .split
   .exact⟨am.asc.sublist (take_sublist ..),λ x hx=>am.its x (mem_of_mem_take hx)⟩
   .exact am
  .split
   .rw[length_take];omega
   .omega
 repeat refine⟨rfl,?_⟩
 conv=>whnf
 refine Ztu (λ f'=>∃af aq,Z6 U3.frz af A.length A/\Xu f' [(5,.pointer (some ⟨b,0,none⟩)),(11,.int .i64 e),(12,.int .i64 n),(13,.slice af A.length aq),(14,.slice a2 O.length c2)]) ?_ (λ H N eN hn=>?_) (λ H=>?_)
 rotate_left
 .have hlt:5<A0.length:=by
   have:(5:Int)<A0.length:=by simpa using H
   omega
  rw[if_pos hlt]at au;subst au;rw[eN];clear eN;refine⟨0,5,⟨rfl,rfl,O1,O1⟩,?_⟩
  conv=>whnf
  refine hn _ ⟨_,c1-0,Zsk Y (m:=5) O1 O1 r1,rfl,rfl,rfl,?_,rfl,trivial⟩;show Value.slice _ (5-0) (c1-0)=.slice _ (A0.take 5).length (c1-0);rw[length_take,Nat.min_eq_left O1]
 .have hlt:¬5<A0.length:=by
   have:¬(5:Int)<A0.length:=by simpa using H
   omega
  rw[if_neg hlt]at au;subst au;exact⟨a1,c1,Y,rfl,rfl,rfl,rfl,rfl,trivial⟩
 rintro f'⟨af,aq,e7,bm⟩;rw[<- bm.ovr];clear bm au r1 Y am d1
 rename Z6 U3.frz af A.length A=>Y
 refine⟨_,⟨rfl,hb.rdT λ _ _ h=>h⟩,Zqb.any,(Zbk h t ht hf e n he Y hA i2 hO hM.1 hM.2).mono ?_⟩;rintro _ K⟨⟨_,rfl,a3,c3,rfl,-,p3⟩,h4⟩-;have ac:=dk.trans h4;have hb:=hb.le h4;have ht:=ht.lg h4.frz2;have Y:=Y.lg h4.frz2;have i2:=i2.lg h4.frz2;have nL:(t.prs ⟨e,n,A,O⟩).length<=40:=Nat.le_trans (t.prs_len ⟨e,n,A,O⟩) (Nat.le_trans (Nat.mul_le_mul nA nO) D1);obtain⟨L,hL⟩:∃L,L=t.prs ⟨e,n,A,O⟩:=⟨_,rfl⟩;rw[<- hL]at p3 nL ⊢
 repeat refine⟨rfl,?_⟩
 conv=>whnf
 intro br bm;refine⟨_,.refl _,?_⟩
 conv=>whnf
 intro P ef;refine⟨_,.refl _,rfl,HK (vs:=[.slice (some ⟨br,0,none⟩) 1 1,.slice none 0 0]) rfl (by simp[Value.single]) ?_⟩;obtain⟨U5,bj⟩:∃U5:Qa Tk,U5=(K.put br (.cells [Value.string ⟨#[111,119,110,101,114]⟩].toArray 9)).put P (.cells [.slice (some ⟨br,0,none⟩) 1 1,.slice none 0 0].toArray 38):=⟨_,rfl⟩;rw[<- bj];have cx:U5.M=.obj P (.cells [.slice (some ⟨br,0,none⟩) 1 1,.slice none 0 0].toArray 38 (0,0))::.obj br (.cells [Value.string ⟨#[111,119,110,101,114]⟩].toArray 9 (0,0))::K.M:=by rw[bj];rfl
 have a6:K.frz.lg U5.frz:=by rw[bj];exact⟨λ _ _ h=>h,⟨[],rfl⟩,rfl⟩
 have hI:Itm U5 K.M P ["owner".toUTF8] [] [] (.slice none 0 0):=by
  refine⟨.slice (some ⟨br,0,none⟩) 1 1,.slice none 0 0,[.obj br (.cells [Value.string ⟨#[111,119,110,101,114]⟩].toArray 9 (0,0))],[],[],[],.nil,?_,.nil,.nil,?_⟩
  .rw[Zrf];exact .ofBlk (e:=9) (n:=1) (b:=br) (len:=1) (cap:=1) (cs:=[Value.string ⟨#[111,119,110,101,114]⟩]) (c:=[Value.string ⟨#[111,119,110,101,114]⟩].toArray) rfl (Nat.le_refl _) rfl (λ i x hx=>by simpa using hx)
  .rw[cx];exact .swap ..
 clear bj ef bm cx
 let p:Nat->Bool:=λ i=>inP L (A.getD i 0)
 have pe:∀i,p i=inP L (A.getD i 0):=λ _=>rfl
 refine⟨Nat×Value,λ y=>[(5,.pointer (some ⟨b,0,none⟩)),(11,.int .i64 e),(12,.int .i64 n),(13,.slice af A.length aq),(14,.slice a2 O.length c2),(15,.slice a3 L.length c3),(17,.pointer (some ⟨P,0,none⟩)),(18,y.2),(19,.int .i64 y.1)],
  λ y U'=>U5.frz.lg U'/\y.1<=A.length/\Itm U' K.M P ("owner".toUTF8::(range y.1).map Qvv) (((range y.1).filter p).map Qdf) ((A.take y.1).filter (inP L)) y.2,
  λ y=>A.length-y.1,(0,.slice none 0 0),T1,⟨Qr,O1,hI⟩,?_⟩
 clear hI;rintro⟨i,vz⟩f U6⟨ch,hi,hI⟩;simp only at hi hI;have V:Z7 ((i:Int)+1):=I1
 repeat refine⟨rfl,?_⟩
 conv=>whnf
 apply Qg<;>intro H
 .have hlt:i<A.length:=by simpa using H
  clear H
  conv=>whnf
  intro act z;refine Zcp (mu:=[]) (dets:=[78,112]) (c':=Zrm) z Qe K1 λ _=>?_;obtain⟨rv,cv,R,C,Z,rows,E,hR,hC,hZ,hM⟩:=hI.ex;refine⟨_,Wp hM,?_⟩;obtain⟨U7,bk⟩:∃U7:Qa Tk,U7={ U6 with M:=R++(C++(Z++.obj P (.cells [rv,cv].toArray 38 (0,0))::K.M)) }:=⟨_,rfl⟩;rw[<- bk];have cy:U7.M=R++(C++(Z++.obj P (.cells [rv,cv].toArray 38 (0,0))::K.M)):=by rw[bk]
  have df:U6.frz.lg U7.frz:=by rw[bk];exact⟨λ _ _ h=>h,⟨[],rfl⟩,rfl⟩
  clear bk hM hI;obtain⟨ra,rl,rc,rfl,ba⟩:=hR.src
  conv=>whnf
  have bv:U7.M=(R++C++Z)++.obj P (.cells [.slice ra rl rc,cv].toArray 38 (0,0))::K.M:=by rw[cy,append_assoc,append_assoc]
  refine⟨_,(Q9 _ bv).cell (i:=0) rfl,.string (Qvv i),λ U' w _=>?_,?_⟩
  .refine⟨ko.any,(Zkl ⟨#[105,116,101,109]⟩ D1 i O1).mono ?_⟩;rintro _ U''⟨rfl,ah⟩-;obtain rfl:=ah.symm;rw[Zsm];exact⟨rfl,_,.refl _,.refl _⟩
  refine⟨λ v U'=>∃bn,v=.slice (some ⟨bn,0,none⟩) 1 1/\Zi U' bn #[.string (Qvv i)],λ v y1 y2⟨bg,e,hh⟩w=>⟨bg,e,hh.le w⟩,λ U' w _=>?_,λ v hv=>?_⟩
  .conv=>whnf
   intro bn T;exact Zh T λ U9 h9 T=>⟨_,.refl _,⟨bn,rfl,T⟩,h9⟩
  obtain⟨_,-,-,bn,rfl,-⟩:=hv
  conv=>whnf
  rintro U8 c7⟨-,b5,en,T⟩;obtain rfl:bn=b5:=by simpa using en
  clear en
  conv=>whnf
  refine Wn (v:=.slice ra rl rc) (cs:=("owner".toUTF8::(range i).map Qvv).flatMap Zq6) (new:=[.string (Qvv i)]) (M₀:=C++(Z++.obj P (.cells [.slice ra rl rc,cv].toArray 38 (0,0))::K.M)) wi rfl rfl (by rw[c7.own,cy];exact hR _) (.inr ⟨_,rfl,T.rd⟩) rfl (by simp[Value.single]) (by rw[Zp2];simp;omega) λ v' M' aa _=>?_;obtain⟨R',c0,b9⟩:=aa.split;obtain⟨ta,tl,tc,rfl,-⟩:=b9.src;have bi:M'=(R'++C++Z)++.obj P (.cells [.slice ra rl rc,cv].toArray 38 (0,0))::K.M:=by rw[c0,append_assoc,append_assoc]
  refine⟨rfl,WM (i:=0) (v:=.slice ta tl tc) (R'++C++Z) bi (by show 0<2;omega) rfl λ U9 d6 er cz=>?_⟩;have dh:U8.frz.lg U9.frz:=⟨λ x o hx=>by show U9.I x=_;rw[d6];exact hx,⟨[],rfl⟩,by show U9.tok=_;rw[er];rfl⟩;have a7:U6.frz.lg U9.frz:=df.trans (c7.lg.frz2.trans dh);have bd:=E.lg a7
  conv=>whnf
  intro a' F;refine⟨by rw[F.size,z.size],_,F.get,?_⟩;rw[F.ds];clear F z
  have hI:Itm U9 K.M P ("owner".toUTF8::(range (i+1)).map Qvv) (((range i).filter p).map Qdf) ((A.take i).filter (inP L)) vz:=by
   refine⟨.slice ta tl tc,cv,R',C,Z,rows,bd,?_,hC,hZ,?_⟩
   .rw[range_succ,map_append,<- cons_append,flatMap_append];exact b9
   .rw[cz];simp
  clear hC hZ hR b9 cz E bd aa c0 bi bv T;have b1:K.frz.lg U9.frz:=a6.trans (ch.frz2.trans a7);have dy:=Y.lg (b1.trans Qr);have et:=p3.lg (b1.trans Qr);obtain⟨x,hx⟩:∃x,A[i]?=some x:=⟨_,getElem?_eq_getElem hlt⟩;have hp:p i=inP L x:=by rw[pe,getD_eq_getElem?_getD,hx];rfl
  refine⟨Nat×Bool,λ y=>[(5,.pointer (some ⟨b,0,none⟩)),(11,.int .i64 e),(12,.int .i64 n),(13,.slice af A.length aq),(14,.slice a2 O.length c2),(15,.slice a3 L.length c3),(17,.pointer (some ⟨P,0,none⟩)),(18,vz),(19,.int .i64 i),(20,.bool y.2),(21,.int .i64 y.1)],λ y U'=>U9.le U'/\y.1<=L.length/\y.2=inP (L.take y.1) x,λ y=>L.length-y.1,(0,false),T1,⟨.refl _,Nat.zero_le _,rfl⟩,?_⟩;rintro⟨k,g⟩f Ux⟨ak,hk,hg⟩;simp only at hk hg
  repeat refine⟨rfl,?_⟩
  conv=>whnf
  apply Qg<;>intro H
  .have bo:k<L.length:=by simpa using H
   have de:Z7 ((k:Int)+1):=I1
   obtain⟨d2,q,e9,hq,ek,e3,rfl,-,dp⟩:=Q7.at (et.lg ak.lg) bo;obtain⟨ad,x2,ae,ea,bq,hs⟩:=(dy.lg ak.lg).at hlt;obtain rfl:x=x2:=Option.some.inj (hx.symm.trans ae);cases g with
   |true=>
    conv=>whnf
    intro Uy cl _;refine⟨de,?_⟩
    conv=>whnf
    exact⟨rfl,(k+1,true),T1,⟨ak.trans cl,by simp only;omega,by show true=inP (L.take (k+1)) x;rw[Zra hq,<- hg];rfl⟩,L1⟩
   |false=>
    refine⟨d2,k,⟨ek,rfl,bo⟩,_,dp.cell (i:=0) rfl,ad,i,⟨ea,rfl,hlt⟩,_,hs,?_⟩
    conv=>whnf
    intro Uy cl _
    repeat refine⟨rfl,?_⟩
    refine⟨de,?_⟩
    conv=>whnf
    exact⟨rfl,(k+1,q.1==x),T1,⟨ak.trans cl,by simp only;omega,by show(q.1==x)=inP (L.take (k+1)) x;rw[Zra hq,<- hg];rfl⟩,L1⟩
  have bo:k=L.length:=by
   have:L.length<=k:=by simpa using H
   omega
  subst bo;clear H;rw[take_of_length_le (Nat.le_refl _),<- hp]at hg;have hI:=hI.le ak;have a9:U5.frz.lg Ux:=((ch.frz2.trans a7).trans ak.lg.frz2).trans Qr
  repeat refine⟨rfl,?_⟩
  conv=>whnf
  apply Qg<;>intro H
  rotate_left
  .have hpf:p i=false:=hg.symm.trans H;refine⟨V,rfl,(i+1,vz),T1,⟨a9,by show i+1<=A.length;omega,?_⟩,L1⟩;show Itm Ux K.M P ("owner".toUTF8::(range (i+1)).map Qvv) (((range (i+1)).filter p).map Qdf) ((A.take (i+1)).filter (inP L)) vz;rw[Zp5,Qjd (inP L) hx,hpf,<- hp,hpf];simpa using hI
  have dm:p i=true:=hg.symm.trans H;clear H hg;obtain⟨ad,x2,ae,ea,bq,hs⟩:=(dy.lg ak.lg).at hlt;obtain rfl:x=x2:=Option.some.inj (hx.symm.trans ae);have bp:((A.take i).filter (inP L)).length<=5:=Nat.le_trans (length_filter_le ..) (by rw[length_take];omega)
  conv=>whnf
  intro act z;refine Zcp (mu:=[]) (dets:=[78,112]) (c':=Zrn) z Qe K1 λ _=>?_;obtain⟨rv,cv,R,C,Z,rows,E,hR,hC,hZ,hM⟩:=hI.ex;refine⟨_,Wp (hM.trans (Ztl ..)),?_⟩;obtain⟨bf,hU⟩:∃s:Qa Tk,s={ Ux with M:=Z++(R++(C++.obj P (.cells [rv,cv].toArray 38 (0,0))::K.M)) }:=⟨_,rfl⟩;rw[<- hU];have bt:bf.M=Z++(R++(C++.obj P (.cells [rv,cv].toArray 38 (0,0))::K.M)):=by rw[hU]
  have a0:Ux.frz.lg bf.frz:=by rw[hU];exact⟨λ _ _ h=>h,⟨[],rfl⟩,rfl⟩
  have hs:bf.sees (ad.add (i*1)) (.int .i64 x):=by
   obtain⟨_,x2,ae,cp,-,eo⟩:=(Y.lg ((a6.trans a9.frz2).trans (a0.trans Qr))).at hlt;rw[ea]at cp;cases cp;rw[hx]at ae;cases ae;exact eo
  clear hU hM hI;obtain⟨za,zl,zc,rfl,bs⟩:=hZ.src;refine⟨ad,i,⟨ea,rfl,hlt⟩,_,hs,?_⟩
  conv=>whnf
  intro bb S;refine Zh S λ co cq S=>?_;have S:Zi co bb #[.int .i64 x]:=S
  conv=>whnf
  refine Wn (v:=.slice za zl zc) (cs:=((A.take i).filter (inP L)).map λ n=>.int .i64 n) (new:=[.int .i64 x]) (M₀:=R++(C++.obj P (.cells [rv,cv].toArray 38 (0,0))::K.M)) H2 rfl rfl (by rw[cq.own,bt];exact hZ _) (.inr ⟨_,rfl,S.rd⟩) rfl (by simp[Value.single]) (by rw[length_map];simp;omega) λ e8 M' aa _=>?_;obtain⟨Z',c4,ca⟩:=aa.split;obtain⟨sa,sl,sc,rfl,-⟩:=ca.src;obtain⟨ap,hU⟩:∃s:Qa Tk,s={ co with M:=M' }:=⟨_,rfl⟩;rw[<- hU];have bx:bf.frz.lg ap.frz:=by rw[hU];exact cq.lg.frz2.trans ⟨λ _ _ h=>h,⟨[],rfl⟩,rfl⟩
  have hI:Itm ap K.M P ("owner".toUTF8::(range (i+1)).map Qvv) (((range i).filter p).map Qdf) ((A.take (i+1)).filter (inP L)) (.slice sa sl sc):=by
   refine⟨rv,cv,R,C,Z',rows,E.lg (a0.trans bx),hR,hC,?_,?_⟩
   .rw[Qjd (inP L) hx,<- hp,dm,if_pos rfl,map_append];exact ca
   .rw[hU];show M'.Perm _;rw[c4];exact(Ztl ..).symm
  have dg:U5.frz.lg ap:=((a9.frz2.trans a0).trans bx).trans Qr;clear hU hZ ca hR hC E bt aa c4 S hs
  conv=>whnf
  intro a' F;refine⟨by rw[F.size,z.size],_,F.get,?_⟩;rw[F.ds];clear F z
  conv=>whnf
  intro act z;refine Zcp (mu:=[]) (dets:=[78,112]) (c':=Zro) z Qe K1 λ _=>?_;obtain⟨rv,cv,R,C,Z,rows,E,hR,hC,hZ,hM⟩:=hI.ex;refine⟨_,Wp (hM.trans (perm_append_comm_assoc R C _)),?_⟩;obtain⟨b3,hU⟩:∃s:Qa Tk,s={ ap with M:=C++(R++(Z++.obj P (.cells [rv,cv].toArray 38 (0,0))::K.M)) }:=⟨_,rfl⟩;rw[<- hU];have bu:b3.M=C++(R++(Z++.obj P (.cells [rv,cv].toArray 38 (0,0))::K.M)):=by rw[hU]
  have b0:ap.frz.lg b3.frz:=by rw[hU];exact⟨λ _ _ h=>h,⟨[],rfl⟩,rfl⟩
  clear hU hM hI;obtain⟨va,vl,vc,rfl,ck⟩:=hC.src;have d7:b3.M=(C++R++Z)++.obj P (.cells [rv,.slice va vl vc].toArray 38 (0,0))::K.M:=by rw[bu,append_assoc,append_assoc]
  have ba:rows.length<=i:=by
   rw[E.1,length_map];exact Nat.le_trans (length_filter_le _ _) S1
  have cj:=Qzy E.row;refine⟨_,(Q9 _ d7).cell (i:=1) rfl,.string (Qdf i).nm,λ U' w _=>?_,?_⟩
  .refine⟨ko.any,(Zkl ⟨#[111,112,112]⟩ D1 i O1).mono ?_⟩;rintro _ U''⟨rfl,ah⟩-;obtain rfl:=ah.symm;rw[Zsq];exact⟨rfl,_,.refl _,.refl _⟩
  refine⟨V,λ v U'=>∃bz,v=.slice (some ⟨bz,0,none⟩) 1 1/\Zi U' bz #[.int .i64 0],λ v y1 y2⟨bg,e,hh⟩w=>⟨bg,e,hh.le w⟩,λ U' w _=>?_,λ v hv=>?_⟩
  .conv=>whnf
   intro bz ax;exact Zh ax λ U9 h9 ax=>⟨_,.refl _,⟨bz,rfl,ax⟩,h9⟩
  obtain⟨_,-,-,bz,rfl,-⟩:=hv;refine⟨λ v U'=>∃bg,v=.slice (some ⟨bg,0,none⟩) 1 1/\Zi U' bg #[.slice (some ⟨bz,0,none⟩) 1 1],λ v y1 y2⟨bg,e,hh⟩w=>⟨bg,e,hh.le w⟩,λ U' w _=>?_,λ v hv=>?_⟩
  .conv=>whnf
   intro bg aw;exact Zh aw λ U9 h9 aw=>⟨_,.refl _,⟨bg,rfl,aw⟩,h9⟩
  obtain⟨_,-,-,bg,rfl,-⟩:=hv;refine⟨λ v U'=>∃bn,v=.slice (some ⟨bn,0,none⟩) 1 1/\Zi U' bn #[.string (Qdf i).nm,.int .i64 ((i:Int)+1),.slice (some ⟨bg,0,none⟩) 1 1,.slice none 0 0],λ v y1 y2⟨bg,e,hh⟩w=>⟨bg,e,hh.le w⟩,λ U' w _=>?_,λ v hv=>?_⟩
  .conv=>whnf
   intro bn T;exact Zh T λ U9 h9 T=>⟨_,.refl _,⟨bn,rfl,T⟩,h9⟩
  obtain⟨_,-,-,bn,rfl,-⟩:=hv
  conv=>whnf
  rintro b4 b6⟨⟨⟨-,d4,ez,ax⟩,d3,eg,aw⟩,b5,en,T⟩;obtain rfl:bz=d4:=by simpa using ez
  obtain rfl:bg=d3:=by simpa using eg
  obtain rfl:bn=b5:=by simpa using en
  clear ez eg en;have cf:P_ b4.frz (Qdf i) [.string (Qdf i).nm,.int .i64 ((i:Int)+1),.slice (some ⟨bg,0,none⟩) 1 1,.slice none 0 0]:=Zrr (U:=b4.frz) (ax.imI λ _ _ h=>h) (aw.imI λ _ _ h=>h) i rfl;have E:=E.lg (b0.trans b6.lg.frz2)
  conv=>whnf
  refine Wn (v:=.slice va vl vc) (cs:=rows.flatten) (new:=[.string (Qdf i).nm,.int .i64 ((i:Int)+1),.slice (some ⟨bg,0,none⟩) 1 1,.slice none 0 0]) (M₀:=R++(Z++.obj P (.cells [rv,.slice va vl vc].toArray 38 (0,0))::K.M)) If rfl rfl (by rw[b6.own,bu];exact hC _) (.inr ⟨_,rfl,T.rd⟩) rfl (by simp[Value.single]) (by rw[cj];simp;omega) λ v' M' aa _=>?_;obtain⟨C',d8,cr⟩:=aa.split;obtain⟨ta,tl,tc,rfl,-⟩:=cr.src;have bi:M'=(C'++R++Z)++.obj P (.cells [rv,.slice va vl vc].toArray 38 (0,0))::K.M:=by rw[d8,append_assoc,append_assoc]
  refine⟨rfl,WM (i:=1) (v:=.slice ta tl tc) (C'++R++Z) bi (by show 1<2;omega) rfl λ bh ct du cw=>?_⟩;have a4:b4.frz.lg bh.frz:=⟨λ x o hx=>by show bh.I x=_;rw[ct];exact hx,⟨[],rfl⟩,by show bh.tok=_;rw[du];rfl⟩
  have hI:Itm bh K.M P ("owner".toUTF8::(range (i+1)).map Qvv) (((range (i+1)).filter p).map Qdf) ((A.take (i+1)).filter (inP L)) (.slice sa sl sc):=by
   refine⟨rv,.slice ta tl tc,R,C',Z,rows++[[.string (Qdf i).nm,.int .i64 ((i:Int)+1),.slice (some ⟨bg,0,none⟩) 1 1,.slice none 0 0]],?_,hR,by simpa using cr,hZ,?_⟩
   .rw[Zp5,dm,if_pos rfl];exact(E.lg a4).snoc (cf.lg a4)
   .rw[cw,append_assoc,append_assoc];exact perm_append_comm_assoc C' R _
  conv=>whnf
  intro a' F;refine⟨by rw[F.size,z.size],_,F.get,?_⟩;rw[F.ds];clear F z;refine⟨V,?_⟩
  conv=>whnf
  exact⟨rfl,(i+1,.slice sa sl sc),T1,⟨(((dg.frz2.trans b0).trans b6.lg.frz2).trans a4).trans Qr,by show i+1<=A.length;omega,hI⟩,L1⟩
 have cg:i=A.length:=by
  have:A.length<=i:=by simpa using H
  omega
 subst cg;clear H V;have eu:=Zp4 p nA;have az:=Zoz p nA
 conv=>whnf
 intro act z;refine Zcp (mu:=[]) (dets:=[78,112]) (c':=Zrp) z Qe K1 λ hw=>?_;obtain⟨rv,cv,R,C,Z,rows,E,hR,hC,hZ,hM⟩:=hI.ex;obtain⟨τ₁,m1,m2,m3,ra,rl,rc,rfl,ba,dq,dr⟩:=hR.freeze (Y9 hw) hM;obtain⟨τ₂,n1,n2,n3,va,vl,vc,rfl,ck,dv,dw⟩:=hC.freeze (Y9 (ID hw m1)) (by rw[m2]);obtain⟨τ₃,o1,o2,o3,za,zl,zc,rfl,bs,cm,dx⟩:=hZ.freeze (Y9 (ID (ID hw m1) n1)) (by rw[n2]);obtain⟨τ₄,q1,q2,q3,y1,y2,y3,ey,-,da,-⟩:=(Jo.ofBlk (e:=38) (n:=2) (b:=P) (len:=1) (cap:=1) (cs:=[.slice ra rl rc,.slice va vl vc]) (c:=[Value.slice ra rl rc,.slice va vl vc].toArray) rfl (Nat.le_refl _) rfl (λ i x hx=>by simpa using hx)).freeze (Y9 (ID (ID (ID hw m1) n1) o1)) (by rw[o2];exact Perm.refl (_::K.M));cases ey
 have em:Je τ₄.frz ⟨P,0,none⟩ [.slice ra rl rc,.slice va vl vc]:=by
  rcases da with⟨h,_⟩|⟨ad,e,h⟩
  .cases h
  .cases e;exact h
 have dz:τ₁.frz.lg τ₄.frz:=n3.trans (o3.trans q3);have d0:U6.frz.lg τ₄.frz:=m3.trans dz;have be:K.frz.lg τ₄.frz:=a6.trans (ch.frz2.trans d0);have w:K.le τ₄:=⟨be.imm,q2,be.tok⟩;have G:=ac.trans w;have ht:=ht.lg be;have Y:=Y.lg be;have i2:=i2.lg be;have hb:=hb.le w
 have ev:A.length+1=rl:=by
  rw[Zp2]at ba;simp at ba;omega
 have eh:=Qzy E.row
 have c9:(Qf8 p A.length).cs.length=vl:=by
  rw[eh,E.1]at ck;show(((range A.length).filter p).map Qdf).length=vl;omega
 have e4:vl<=5:=by
  rw[<- c9];show(((range A.length).filter p).map Qdf).length<=5;rw[length_map];exact Nat.le_trans (length_filter_le _ _) (by simpa using nA)
 have ce:Zs τ₄.frz ⟨ra,rl,rc,va,vl,vc⟩ (Qf8 p A.length):=by
  refine⟨?_,?_,by show rl<2^60;omega,by show vl<2^60;omega,λ x hx=>?_,λ x hx=>?_⟩
  .have:=Zrg (enc:=Zq6) (n:=1) (λ _=>rfl) (dq.lgS dz) dr O1;rw[show("owner".toUTF8::(range A.length).map Qvv).length=rl by simp;omega]at this;exact this
  .have:=(E.lg d0).rows (a:=va) (dv.lgS (o3.trans q3)) dw;rw[show(((range A.length).filter p).map Qdf).length=vl from c9]at this;exact this
  .rcases mem_cons.1 hx with rfl|hx
   .rw[Zrf];decide
   .obtain⟨j,-,rfl⟩:=mem_map.1 hx;exact Zry j
  .obtain⟨j,-,rfl⟩:=mem_map.1 hx;exact Zrx j
 have hS:Z6 τ₄.frz za ((A.filter (inP L)).length) (A.filter (inP L))/\zl=(A.filter (inP L)).length:=by
  rw[take_of_length_le (Nat.le_refl _)]at bs cm;have e1:(A.filter (inP L)).length=zl:=by simpa using bs
  exact⟨Zp3 (cm.lgS q3) dx,e1.symm⟩
 obtain⟨hS,rfl⟩:=hS;have ei:JY τ₄:=hk.lg G.lg;refine⟨τ₄,((m1.trans n1).trans o1).trans q1,?_⟩;clear ck dv cm bs dq ba da hM hR hC hZ E hw;refine⟨_,⟨rfl,em.lg Qr⟩,UJ.any,(qV ⟨ra,rl,rc,va,vl,vc⟩ (Qf8 p A.length) ce ei).mono ?_⟩;rintro _ τ₅⟨⟨_,_,rfl,⟨fa,fc,rfl,ab⟩,ga,gc,rfl,-⟩,an⟩-;rw[if_pos az,Zld p nA]at ab;rw[az,if_pos (rfl:(0:Int)=0),if_pos (rfl:(0:Int)=0),Zld p nA];obtain⟨fl,ay⟩:∃fl:List Int,fl=1::(range A.length).map λ i=>if p i then(2:Int)else 1:=⟨_,rfl⟩
 have hF:(1::(range A.length).map λ i=>if p i then(2:Int)else 1).length=A.length+1:=S1
 rw[<- ay]at ab hF ⊢;have w:=w.trans an;have G:=ac.trans w;have ht:=ht.lg an.frz2;have Y:=Y.lg an.frz2;have i2:=i2.lg an.frz2;have hb:=hb.le an;have hS:=hS.lg an.frz2
 conv=>whnf
 intro a' F;refine⟨by rw[F.size,z.size],_,F.get,?_⟩;rw[F.ds];clear F z;refine⟨_,⟨rfl,hb.rdT λ _ _ h=>h⟩,?_⟩
 conv=>whnf
 intro bc av;refine Zh av λ τ₆ ai av=>?_;have av:Zi τ₆ bc #[.slice za (A.filter (inP L)).length zc,.bool false]:=av;have w:=w.trans ai;have G:=ac.trans w;have ht:=ht.lg ai.frz2;have Y:=Y.lg ai.frz2;have i2:=i2.lg ai.frz2;have hb:=hb.le ai;have hS:=hS.lg ai.frz2;have ab:=ab.lg ai.frz2;have cu:t.Lst e (A.filter (inP L)):=hA.filter _;refine⟨Zqm.any,(Zp7 h t ht hf e he Y hA (cs:=[⟨A.filter (inP L),false⟩]) (Qz0.one av.frz hS (by have:=cu.len hf;omega)) (by show 1<=4;omega) (λ c H=>by rw[mem_singleton.1 H];exact cu)).mono ?_⟩;rintro _ τ₇⟨⟨_,rfl,a8,c8,rfl,i8⟩,h7⟩-;have w:=w.trans h7;have G:=ac.trans w;have ht:=ht.lg h7.frz2;have Y:=Y.lg h7.frz2;have i2:=i2.lg h7.frz2;have hb:=hb.le h7;have ab:=ab.lg h7.frz2;rw[Zrk,Ztv]at i8 ⊢;obtain⟨W,hW⟩:∃W,W=A.filter λ x=>!inP L x:=⟨_,rfl⟩;have c6:t.Lst e W:=by rw[hW];exact hA.filter _
 have hn:t.prs ⟨e,n,W,O⟩=[]:=by rw[hW,hL];exact Ztm
 rw[<- hW]at i8 ⊢;obtain⟨ag,f0,db,dd,ew,ep⟩:=(ab.lg Qr).at (i:=0) O1;obtain rfl:f0=1:=by rw[ay]at db;simpa using db.symm
 repeat refine⟨rfl,?_⟩
 refine⟨I1,?_⟩
 repeat refine⟨rfl,?_⟩
 conv=>whnf
 rw[show(((fl.length:Nat):Int)!=((A.length:Nat):Int)+1)=false by rw[hF];simp];refine⟨ag,0,⟨dd,rfl,O1⟩,_,ep,?_⟩
 repeat refine⟨rfl,?_⟩
 refine⟨Nat×Value,λ y=>[(5,.pointer (some ⟨b,0,none⟩)),(11,.int .i64 e),(12,.int .i64 n),(13,.slice af A.length aq),(14,.slice a2 O.length c2),(22,.slice fa fl.length fc),(24,.slice a8 W.length c8),(26,y.2),(27,.int .i64 y.1)],
  λ y U'=>τ₇.frz.lg U'/\y.1<=A.length/\Acc 3 1 y.2 (((A.take y.1).filter λ x=>!inP L x).map λ n=>.int .i64 n) U'.M τ₇.M,
  λ y=>A.length-y.1,(0,.slice none 0 0),T1,⟨Qr,O1,.nil⟩,?_⟩
 rintro⟨i,vz⟩f τ₈⟨aj,hi,X⟩;simp only at hi X;have V:Z7 ((i:Int)+1):=I1
 repeat refine⟨rfl,?_⟩
 conv=>whnf
 apply Qg<;>intro H
 .have hlt:i<A.length:=by simpa using H
  clear H;obtain⟨x,hx⟩:∃x,A[i]?=some x:=⟨_,getElem?_eq_getElem hlt⟩;have hp:p i=inP L x:=by rw[pe,getD_eq_getElem?_getD,hx];rfl
  obtain⟨ag,f1,dc,al,e0,ao⟩:=(ab.lg aj).at (i:=i+1) O1;have ao:τ₈.sees (ag.add ((i+1)*1)) (.int .i64 f1):=ao
  have bw:f1=if inP L x then 2 else 1:=by
   rw[ay,getElem?_cons_succ,getElem?_map,getElem?_range hlt]at dc;rw[<- hp];simpa using dc.symm
  obtain⟨ad,x2,ae,ea,bq,hs⟩:=(Y.lg aj).at hlt;obtain rfl:x=x2:=Option.some.inj (hx.symm.trans ae);have h1:(((i+1:Nat):Int))=(i:Int)+1:=O1
  have bp:((A.take i).filter λ x=>!inP L x).length<=5:=Nat.le_trans (length_filter_le ..) (by rw[length_take];omega);cases H:inP L x with
  |true=>
   obtain rfl:f1=2:=by rw[bw,H];rfl
   refine⟨V,ag,i+1,⟨al,by rw[h1],O1⟩,?_⟩;refine⟨_,ao,?_⟩
   repeat refine⟨rfl,?_⟩
   refine⟨V,ag,i+1,⟨al,by rw[h1],O1⟩,?_⟩;refine⟨_,ao,?_⟩
   repeat refine⟨rfl,?_⟩
   refine⟨V,rfl,(i+1,vz),T1,⟨aj,by show i+1<=A.length;omega,?_⟩,L1⟩;show Acc 3 1 vz (((A.take (i+1)).filter λ x=>!inP L x).map λ n=>.int .i64 n) τ₈.M τ₇.M;rw[Qjd _ hx,H];simpa using X
  |false=>
   obtain rfl:f1=1:=by rw[bw,H];rfl
   obtain⟨sa,sl,sc,rfl,-⟩:=X.src;refine⟨V,ag,i+1,⟨al,by rw[h1],O1⟩,?_⟩;refine⟨_,ao,?_⟩
   repeat refine⟨rfl,?_⟩
   refine⟨V,ag,i+1,⟨al,by rw[h1],O1⟩,?_⟩;refine⟨_,ao,?_⟩
   repeat refine⟨rfl,?_⟩
   refine⟨ad,i,⟨ea,rfl,hlt⟩,_,hs,?_⟩
   conv=>whnf
   intro bb S;refine Zh S λ τ₉ h9 S=>?_;have S:Zi τ₉ bb #[.int .i64 x]:=S
   conv=>whnf
   refine Wn (v:=.slice sa sl sc) (cs:=((A.take i).filter λ x=>!inP L x).map λ n=>.int .i64 n) (new:=[.int .i64 x]) (M₀:=τ₇.M) H2 rfl rfl (by rw[h9.own];exact X) (.inr ⟨_,rfl,S.rd⟩) rfl (by simp[Value.single]) (by rw[length_map];simp;omega) λ v' M' aa _=>?_;obtain⟨_,-,es⟩:=aa.split;obtain⟨xa,xl,xc,rfl,-⟩:=es.src;refine⟨V,rfl,(i+1,.slice xa xl xc),T1,⟨⟨λ a o h=>h9.imm _ _ (aj.imm _ _ h),⟨_,(append_nil _).symm⟩,h9.tok.trans aj.tok⟩,by show i+1<=A.length;omega,?_⟩,L1⟩;show Acc 3 1 (.slice xa xl xc) (((A.take (i+1)).filter λ x=>!inP L x).map λ n=>.int .i64 n) M' τ₇.M;rw[Qjd _ hx,H,map_append];exact aa
 have cg:i=A.length:=by
  have:A.length<=i:=by simpa using H
  omega
 subst cg;clear H V;rw[take_of_length_le (Nat.le_refl _),<- hW]at X
 conv=>whnf
 intro act z;refine Zcp (mu:=[]) (dets:=[78,112]) (c':=Zrq) z Qe K1 λ hw=>?_;obtain⟨τ₉,k1,k2,sa,sl,sc,rfl,bp,dt,bq,-⟩:=X.freeze (U:=τ₇) (Y9 hw) aj.imm aj.tok;have hl:W.length=sl:=by simpa using bp
 subst hl;have iW:=Zp3 dt bq;have w:=w.trans k2;have G:=ac.trans w;have ht:=ht.lg k2.frz2;have i2:=i2.lg k2.frz2;have hb:=hb.le k2;have i8:=i8.lg k2.frz2;refine⟨τ₉,k1,?_⟩;clear X dt bp hw k1;refine⟨_,⟨rfl,hb.rdT λ _ _ h=>h⟩,Zqb.any,(Zbk h t ht hf e n he i8 c6 i2 hO hM.1 hM.2).mono ?_⟩;rintro _ χ⟨⟨_,rfl,a5,c5,rfl,-,-⟩,b8⟩-;have G:=G.trans b8;have i8:=i8.lg b8.frz2;have iW:=iW.lg b8.frz2;rw[hn]
 conv=>whnf
 intro a' F;refine⟨by rw[F.size,z.size],_,F.get,?_⟩;rw[F.ds];clear F z
 repeat refine⟨rfl,?_⟩
 conv=>whnf
 have nW:=c6.len hf;refine(Zph iW i8 O1 O1 rfl).mono ?_;rintro _ U'⟨rfl,ah⟩-;obtain rfl:=ah.symm;refine⟨kn.any,(fin _ G.lg).go λ _=>?_⟩
 repeat refine⟨rfl,?_⟩
 conv=>whnf
 exact G.lg
end Go.Proofs





