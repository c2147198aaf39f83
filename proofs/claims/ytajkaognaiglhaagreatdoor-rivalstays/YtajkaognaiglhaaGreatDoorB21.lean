/- Lemmas. No conditions. -/
import Derived.Test.YtajkaognaiglhaaGreatDoorB20
import Derived.Test.YtajkaognaiglhaaGreatDoorB16
set_option linter.all false
set_option maxRecDepth 100000
set_option maxHeartbeats 2000000
open List
namespace Go.TM
open Go.Proofs
variable{T:Type}{P:Program}{k:Qa T}{b N bb s n u:Nat}{c:Value->Qa T->Prop}{me:LP}{x:LZ}{D:Spec}{sp:(Nat->Bool)->Spec}{lo:Nat×Nat}{U:Qa Tk}{Q K:Value->Qa Tk->Prop}{S:Sys P T}{g fn:FuncId}{cc:C}{args:List Value}{M₁ M₂:List Q2}{j:Qa Tk->Prop}{t:TypeId}{d h i:Int}{sm:Value}{es:Array Event}{f:Fm}{o:Oper}{ds:List Spec}{pend:Bool}{k₀:PS}{xs:Array Operand}{w z:Array TypeId}{bs:List (Nat×Bool)}{p e G H:Operand}{ps:List Operand}{y:ZA}{v:Nat->Bool}{rl:List RV}{a:Option ZL}{l:Array Value}
def Zz1:=And.intro @Qn (And.intro @Qh (And.intro @Qk (And.intro @Ql (And.intro @Qm (And.intro @Qo (And.intro @Qq (And.intro @Qs (And.intro @Qr (And.intro @Qp (And.intro @Z3 (And.intro @Z4 @Qt)))))))))))
def Zz0:=And.intro @Qn (And.intro @Qh (And.intro @Qk (And.intro @Ql (And.intro @Qm (And.intro @Qo (And.intro @Qq (And.intro @Qs (And.intro @Qr (And.intro @Qp (And.intro @Qx @Qt))))))))))
structure LY where
 ws:Int
 st:Bool
 aw:Bool
 it:Nat
 w:Nat
 me:LP
 lo:Nat×Nat
variable{q r:LY}
def LY.slots(b:Nat)(y:LY):List (Nat×Value):=[(0,.pb b),(2,.int .i64 y.ws),(3,.bool y.st),(4,.bool y.aw),(5,.int .i64 (y.it:Nat)),(6,.int .i32 (y.w:Nat))]
def LY.ok(N:Nat)(y:LY):Prop:=y.it<=4/\y.lo.1<=PB N/\y.lo.2=y.w/\(∃z,y.w=z.st/\y.me.fits N z)/\(y.me=.idle/\y.aw=false/\y.st=false\/y.me=.idw/\y.aw=true/\y.st=false\/∃c,y.me=.wok c/\y.aw=true)
def LY.rk(N:Nat)(y:LY):Nat:=match y.me with
 |.wok c=>N-c
 |_=>N+1
def LY.mu(N:Nat)(y:LY):Nat:=y.rk N*((PB N+2)*6)+(PB N-y.lo.1)*6+(5-y.it)
def qq(h:∀r:Bool,(r=true->b<4)->c (.bool r) k):Qw P (Extern.Sync.canSpin #[.int .i64 ((b:Nat):Int)]) c k:=by
 show Qw P (if((b:Nat):Int) ≥ 4 then(pure (Value.bool false):Sem Value)else(do pure (Value.bool ((<- choose (.extern "runtime_canSpin" 2))=1)))) c k;by_cases f:((b:Nat):Int) ≥ 4
 .rw[if_pos f];exact h false (λ e=>by cases e)
 .rw[if_neg f];have:∀n,c (.bool n) k:=λ n=>h n λ _=>O1
  rw[Qc];unfold choose;show if _ then _ else _
  split
  .exact this _
  .exact λ t=>this _
def Jj(h:me.fits N x)(e:x.st=b):x.l=b % 2/\x.s=b / 4 % 2/\x.w=b / 2 % 2/\x.n=b / 8:=by
 obtain⟨f,B,E,F,G,-⟩:=h;rw[<- e];unfold LZ.st;omega
def LY.mu_lt(B:r.lo.1<=PB N)(z:q.lo.1<=PB N)(f:r.rk N<q.rk N\/(r.rk N=q.rk N/\(q.lo.1<r.lo.1\/(q.lo.1=r.lo.1/\5-r.it<5-q.it)))):r.mu N<q.mu N:=by
 unfold LY.mu;rcases f with f|⟨f,w⟩
 .have:=Nat.mul_le_mul_right ((PB N+2)*6) (Nat.succ_le_of_lt f);rw[Nat.succ_mul]at this;omega
 .rw[f];omega
def RG(ht:U.tok=⟨1,.wrk bb D,some (.lok ⟨b,111,sp⟩ s .idle lo)⟩)(Z:Km b bb D sp s (Q (.tuple #[])) U):Qb Zs 122 #[.pb b] Q U:=by
 refine Qb.of (args:=[_]) UC Qd S1 ?_
 conv=>whnf
 intro a0 aa;refine Zf _ aa AE ?_
 repeat refine⟨rfl,?_⟩
 conv=>whnf
 refine JV (x:=⟨b,111,sp⟩) (es:=#[⟨.cell ⟨b,0,none⟩,false,false⟩]) (λ st sm=>K1) K1 ht λ z p q1 q2 q3 q4=>?_
 conv=>whnf
 intro a' H;refine⟨by rw[H.size,aa.size],_,H.get,?_⟩;rw[H.ds];clear H aa a0;refine⟨LY,LY.slots b,λ y U'=>U'=U.lk 1 bb D ⟨b,111,sp⟩ s y.me y.lo/\y.ok 20,LY.mu 20,⟨0,false,false,0,z.st,.idle,(p,z.st)⟩,T1,⟨rfl,S1,q3,rfl,⟨z,rfl,q4⟩,.inl ⟨rfl,rfl,rfl⟩⟩,?_⟩;clear q1 q2 q3 q4 z p;rintro⟨ws,st,aw,it,w,me,lo⟩f U'⟨rfl,aj,hp,ak,⟨z,hz,ab⟩,ag⟩;simp only at aj hp ak hz ab ag;subst ak;obtain⟨p,w⟩:=lo;simp only at hp hz;have ad:=ab;obtain⟨ao,au,aq,K,hn,-⟩:=ad;have hw:w<512:=by rw[hz];unfold LZ.st;omega
 obtain⟨l,wb,sb,n,fz⟩:=z;simp only at ao au aq K hn;have B:w % 2=l:=by rw[hz];unfold LZ.st;simp only;omega
 have F:w / 4 % 2=sb:=by rw[hz];unfold LZ.st;simp only;omega
 have G:w / 2 % 2=wb:=by rw[hz];unfold LZ.st;simp only;omega
 have E:w / 8=n:=by rw[hz];unfold LZ.st;simp only;omega
 by_cases ac:l=1/\sb=0
 case' pos=>
  obtain⟨rfl,rfl⟩:=ac
  (conv=>whnf);repeat(refine⟨Zz_,?_⟩;(try simp(disch:=omega)only[Zz0,B,F,G,E]);conv=>whnf)
  refine OH Tryz.func143 rfl Bi Bh ?_;show Qw _ (Extern.Sync.canSpin #[.int .i64 ((it:Nat):Int)]) _ _;refine qq λ r hr=>⟨_,.refl _,?_⟩;rcases r with _|_
  case' true=>
   have hr:=hr rfl
   (conv=>whnf);repeat(refine⟨Zz_,?_⟩;(try simp(disch:=omega)only[Zz0,B,F,G,E]);conv=>whnf)
   intro a0 aa;refine Zf _ aa AF ?_;rcases ag with⟨rfl,rfl,rfl⟩|⟨rfl,rfl,rfl⟩|⟨c,rfl,rfl⟩
   case' inl=>
    (conv=>whnf);repeat(refine⟨Zz_,?_⟩;(try simp(disch:=omega)only[Zz0,B,F,G,E]);conv=>whnf)
    obtain rfl|rfl:wb=0\/wb=1:=O1
    case' inl=>
     (conv=>whnf);repeat(refine⟨Zz_,?_⟩;(try simp(disch:=omega)only[Zz0,B,F,G,E]);conv=>whnf)
     refine Jb (λ hc=>?_) (λ hc=>?_)
     case' refine_1=>
      have av:0<n:=by
       rcases Nat.eq_zero_or_pos n with e|e
       .subst e;cases hc
       .exact e
      (conv=>whnf);repeat(refine⟨Zz_,?_⟩;(try simp(disch:=omega)only[Zz0,B,F,G,E]);conv=>whnf)
      refine VW (x:=⟨b,111,sp⟩) (w:=w) (n:=w+2) VD (VO b) rfl rfl rfl rfl rfl (λ z p2 h1 h2 h3 h4=>?_) (λ z p2 h1 h2 h3 h4 h5=>?_)
      case' refine_1=>
       obtain⟨l2,w2,s2,n2,f2⟩:=z;obtain⟨e1,e2,e3,e4⟩:=Jj h3 h4;simp only at e1 e2 e3 e4;refine⟨.idw,⟨l2,1,s2,n2,f2⟩,.spin O1 O1 O1 O1,by rw[<- h4];unfold LZ.st;simp only;omega,rfl,rfl,rfl,?_⟩
      all_goals((conv=>whnf);repeat(refine⟨Zz_,?_⟩;(try simp(disch:=omega)only[Zz0,B,F,G,E]);conv=>whnf))
    all_goals((conv=>whnf);repeat(refine⟨Zz_,?_⟩;(try simp(disch:=omega)only[Zz0,B,F,G,E]);conv=>whnf))
   all_goals((conv=>whnf);repeat(refine⟨Zz_,?_⟩;(try simp(disch:=omega)only[Zz0,B,F,G,E]);conv=>whnf))
   all_goals intro a' H
   all_goals refine⟨by rw[H.size,aa.size],_,H.get,?_⟩
   all_goals rw[H.ds]
   all_goals clear H aa a0
   all_goals((conv=>whnf);repeat(refine⟨Zz_,?_⟩;(try simp(disch:=omega)only[Zz0,B,F,G,E]);conv=>whnf))
   all_goals refine E6 (v:=.tuple #[]) Tryz.func144 rfl AC AB rfl ?_
   all_goals((conv=>whnf);repeat(refine⟨Zz_,?_⟩;(try simp(disch:=omega)only[Zz0,B,F,G,E]);conv=>whnf))
   all_goals refine⟨by simp only[Je];omega,?_⟩
   all_goals((conv=>whnf);repeat(refine⟨Zz_,?_⟩;(try simp(disch:=omega)only[Zz0,B,F,G,E]);conv=>whnf))
   all_goals intro a1 K
   all_goals refine Zf _ K Ry ?_
   all_goals((conv=>whnf);repeat(refine⟨Zz_,?_⟩;(try simp(disch:=omega)only[Zz0,B,F,G,E]);conv=>whnf))
   all_goals refine JV (x:=⟨b,111,sp⟩) (es:=#[⟨.cell ⟨b,0,none⟩,false,false⟩]) (λ st sm=>K1) K1 rfl λ L p3 k1 k2 X N=>?_
   all_goals((conv=>whnf);repeat(refine⟨Zz_,?_⟩;(try simp(disch:=omega)only[Zz0,B,F,G,E]);conv=>whnf))
   all_goals intro a2 S
   all_goals refine⟨by rw[S.size,K.size],_,S.get,?_⟩
   all_goals rw[S.ds]
   all_goals((conv=>whnf))
   all_goals refine⟨rfl,⟨ws,_,_,it+1,L.st,_,(p3,L.st)⟩,T1,⟨rfl,by simp only;omega,X,rfl,⟨L,rfl,N⟩,?_⟩,?_⟩
   all_goals try(first|exact .inl ⟨rfl,rfl,rfl⟩|exact .inr (.inl ⟨rfl,rfl,rfl⟩)|exact .inr (.inr ⟨_,rfl,rfl⟩))
   all_goals simp only at k1
   all_goals refine LY.mu_lt X hp (.inr ⟨rfl,?_⟩)
   all_goals simp only
   all_goals omega
  have ac:True:=trivial
 case' neg=>
  have ap:l=0\/l=1:=O1
  obtain rfl|rfl:sb=0\/sb=1:=O1
  all_goals obtain rfl|rfl:=ap
  case' inl.inr=>exact absurd ⟨rfl,rfl⟩ ac
  all_goals replace ac:True:=trivial
 all_goals((conv=>whnf);repeat(refine⟨Zz_,?_⟩;(try simp(disch:=omega)only[Zz0,B,F,G,E]);conv=>whnf))
 all_goals rcases ag with⟨rfl,rfl,rfl⟩|⟨rfl,rfl,rfl⟩|⟨c,rfl,rfl⟩
 all_goals obtain⟨-,-,-,-,-,an⟩:=ab
 all_goals simp only at an
 all_goals try(exfalso;omega)
 all_goals try cases st
 all_goals((conv=>whnf);repeat(refine⟨Zz_,?_⟩;(try simp(disch:=omega)only[Zz0,B,F,G,E]);conv=>whnf))
 all_goals try refine Qe (λ hc=>absurd (beq_iff_eq.1 hc) O1) (λ hc=>?_)
 all_goals((conv=>whnf);repeat(refine⟨Zz_,?_⟩;(try simp(disch:=omega)only[Zz0,B,F,G,E]);conv=>whnf))
 all_goals intro a0 aa
 all_goals refine Zf _ aa Rz ?_
 all_goals((conv=>whnf);repeat(refine⟨Zz_,?_⟩;(try simp(disch:=omega)only[Zz0,B,F,G,E]);conv=>whnf))
 all_goals refine VW (x:=⟨b,111,sp⟩) (w:=w) VD (VO b) rfl rfl rfl rfl rfl (λ z p2 h1 h2 h3 h4=>?_) (λ z p2 h1 h2 h3 h4 h5=>by
  ((conv=>whnf);repeat(refine⟨Zz_,?_⟩;(try simp(disch:=omega)only[Zz0,B,F,G,E]);conv=>whnf))
  intro a' H;refine⟨by rw[H.size,aa.size],_,H.get,?_⟩;rw[H.ds];clear H aa a0
  ((conv=>whnf);repeat(refine⟨Zz_,?_⟩;(try simp(disch:=omega)only[Zz0,B,F,G,E]);conv=>whnf))
  intro a1 K;refine Zf _ K RN ?_
  ((conv=>whnf);repeat(refine⟨Zz_,?_⟩;(try simp(disch:=omega)only[Zz0,B,F,G,E]);conv=>whnf))
  refine JV (x:=⟨b,111,sp⟩) (es:=#[⟨.cell ⟨b,0,none⟩,false,false⟩]) (λ st sm=>K1) K1 rfl λ L p3 k1 k2 X N=>?_
  ((conv=>whnf);repeat(refine⟨Zz_,?_⟩;(try simp(disch:=omega)only[Zz0,B,F,G,E]);conv=>whnf))
  intro a2 S;refine⟨by rw[S.size,K.size],_,S.get,?_⟩;rw[S.ds]
  ((conv=>whnf))
  simp only at h1 h2 k1;refine⟨rfl,⟨ws,_,_,it,L.st,_,(p3,L.st)⟩,T1,⟨rfl,aj,X,rfl,⟨L,rfl,N⟩,by first|exact .inl ⟨rfl,rfl,rfl⟩|exact .inr (.inl ⟨rfl,rfl,rfl⟩)|exact .inr (.inr ⟨_,rfl,rfl⟩)⟩,?_⟩;refine LY.mu_lt X hp (.inr ⟨rfl,.inl ?_⟩);have ax:p≠p2:=λ e=>h5 (h2 e).symm;show p<p3;omega)
 all_goals obtain⟨l2,w2,s2,n2,f2⟩:=z
 all_goals obtain⟨e1,e2,e3,e4⟩:=Jj h3 h4
 all_goals simp only at e1 e2 e3 e4
 all_goals first
  |refine⟨.got,⟨1,w2,s2,n2,f2⟩,.take O1 O1,(by rw[<- h4];unfold LZ.st;simp only;omega),rfl,rfl,rfl,?_⟩
  |refine⟨.got,⟨1,0,s2,n2,f2⟩,.takew O1 O1,(by rw[<- h4];unfold LZ.st;simp only;omega),rfl,rfl,rfl,?_⟩
  |refine⟨.got,⟨1,0,s2,n2,f2⟩,.takeo O1 O1,(by rw[<- h4];unfold LZ.st;simp only;omega),rfl,rfl,rfl,?_⟩
  |refine⟨.wai 0,⟨l2,w2,s2,n2+1,f2⟩,.que O1,(by rw[<- h4];unfold LZ.st;simp only;omega),rfl,rfl,rfl,?_⟩
  |refine⟨.wai 0,⟨l2,0,s2,n2+1,f2⟩,.quew O1 O1,(by rw[<- h4];unfold LZ.st;simp only;omega),rfl,rfl,rfl,?_⟩
  |refine⟨.wai (_+1),⟨l2,0,0,n2+1,f2⟩,.queo O1 O1 O1,(by rw[<- h4];unfold LZ.st;simp only;omega),rfl,rfl,rfl,?_⟩
  |refine⟨.wai (_+1),⟨l2,0,1,n2+1,f2⟩,.queo O1 O1 O1,(by rw[<- h4];unfold LZ.st;simp only;omega),rfl,rfl,rfl,?_⟩
  |skip
 all_goals((conv=>whnf);repeat(refine⟨Zz_,?_⟩;(try simp(disch:=omega)only[Zz0,B,F,G,E]);conv=>whnf))
 all_goals intro a' H
 all_goals refine⟨by rw[H.size,aa.size],_,H.get,?_⟩
 all_goals rw[H.ds]
 all_goals clear H aa a0
 all_goals((conv=>whnf);repeat(refine⟨Zz_,?_⟩;(try simp(disch:=omega)only[Zz0,B,F,G,E]);conv=>whnf))
 case' neg.inl.inl.inl=>
  intro a1 K;refine Zf _ K GZ ?_
  ((conv=>whnf);repeat(refine⟨Zz_,?_⟩;(try simp(disch:=omega)only[Zz0,B,F,G,E]);conv=>whnf))
  refine XA (x:=⟨b,111,sp⟩) (m:=.enable) (d':=0) (.inr rfl) J8 rfl rfl rfl ?_
  ((conv=>whnf);repeat(refine⟨Zz_,?_⟩;(try simp(disch:=omega)only[Zz0,B,F,G,E]);conv=>whnf))
  intro a2 S;refine⟨by rw[S.size,K.size],_,S.get,?_⟩;rw[S.ds];clear S K a1
  ((conv=>whnf);repeat(refine⟨Zz_,?_⟩;(try simp(disch:=omega)only[Zz0,B,F,G,E]);conv=>whnf))
  intro a3 Y;refine Zf _ Y G_ ?_
  ((conv=>whnf);repeat(refine⟨Zz_,?_⟩;(try simp(disch:=omega)only[Zz0,B,F,G,E]);conv=>whnf))
  refine H0 (x:=⟨b,111,sp⟩) (bs:=[(b,false),(b,false)]) (v:=.pb b) (λ st sm=>K1) Z9 (Wr _ _) rfl ?_
  ((conv=>whnf);repeat(refine⟨Zz_,?_⟩;(try simp(disch:=omega)only[Zz0,B,F,G,E]);conv=>whnf))
  refine Gp (x:=⟨b,111,sp⟩) He rfl rfl rfl λ R M g1 g2=>?_
  ((conv=>whnf);repeat(refine⟨Zz_,?_⟩;(try simp(disch:=omega)only[Zz0,B,F,G,E]);conv=>whnf))
  intro a4 H4;refine⟨by rw[H4.size,Y.size],_,H4.get,?_⟩;rw[H4.ds]
  ((conv=>whnf);repeat(refine⟨Zz_,?_⟩;(try simp(disch:=omega)only[Zz0,B,F,G,E]);conv=>whnf))
  exact Z R M _ g1 g2
 case' neg.inl.inl.inr.inl=>
  intro a1 K;refine Zf _ K GZ ?_
  ((conv=>whnf);repeat(refine⟨Zz_,?_⟩;(try simp(disch:=omega)only[Zz0,B,F,G,E]);conv=>whnf))
  refine XA (x:=⟨b,111,sp⟩) (m:=.enable) (d':=0) (.inr rfl) J8 rfl rfl rfl ?_
  ((conv=>whnf);repeat(refine⟨Zz_,?_⟩;(try simp(disch:=omega)only[Zz0,B,F,G,E]);conv=>whnf))
  intro a2 S;refine⟨by rw[S.size,K.size],_,S.get,?_⟩;rw[S.ds];clear S K a1
  ((conv=>whnf);repeat(refine⟨Zz_,?_⟩;(try simp(disch:=omega)only[Zz0,B,F,G,E]);conv=>whnf))
  intro a3 Y;refine Zf _ Y G_ ?_
  ((conv=>whnf);repeat(refine⟨Zz_,?_⟩;(try simp(disch:=omega)only[Zz0,B,F,G,E]);conv=>whnf))
  refine H0 (x:=⟨b,111,sp⟩) (bs:=[(b,false),(b,false)]) (v:=.pb b) (λ st sm=>K1) Z9 (Wr _ _) rfl ?_
  ((conv=>whnf);repeat(refine⟨Zz_,?_⟩;(try simp(disch:=omega)only[Zz0,B,F,G,E]);conv=>whnf))
  refine Gp (x:=⟨b,111,sp⟩) He rfl rfl rfl λ R M g1 g2=>?_
  ((conv=>whnf);repeat(refine⟨Zz_,?_⟩;(try simp(disch:=omega)only[Zz0,B,F,G,E]);conv=>whnf))
  intro a4 H4;refine⟨by rw[H4.size,Y.size],_,H4.get,?_⟩;rw[H4.ds]
  ((conv=>whnf);repeat(refine⟨Zz_,?_⟩;(try simp(disch:=omega)only[Zz0,B,F,G,E]);conv=>whnf))
  exact Z R M _ g1 g2
 case' neg.inl.inl.inr.inr.false=>
  intro a1 K;refine Zf _ K GZ ?_
  ((conv=>whnf);repeat(refine⟨Zz_,?_⟩;(try simp(disch:=omega)only[Zz0,B,F,G,E]);conv=>whnf))
  refine XA (x:=⟨b,111,sp⟩) (m:=.enable) (d':=0) (.inr rfl) J8 rfl rfl rfl ?_
  ((conv=>whnf);repeat(refine⟨Zz_,?_⟩;(try simp(disch:=omega)only[Zz0,B,F,G,E]);conv=>whnf))
  intro a2 S;refine⟨by rw[S.size,K.size],_,S.get,?_⟩;rw[S.ds];clear S K a1
  ((conv=>whnf);repeat(refine⟨Zz_,?_⟩;(try simp(disch:=omega)only[Zz0,B,F,G,E]);conv=>whnf))
  intro a3 Y;refine Zf _ Y G_ ?_
  ((conv=>whnf);repeat(refine⟨Zz_,?_⟩;(try simp(disch:=omega)only[Zz0,B,F,G,E]);conv=>whnf))
  refine H0 (x:=⟨b,111,sp⟩) (bs:=[(b,false),(b,false)]) (v:=.pb b) (λ st sm=>K1) Z9 (Wr _ _) rfl ?_
  ((conv=>whnf);repeat(refine⟨Zz_,?_⟩;(try simp(disch:=omega)only[Zz0,B,F,G,E]);conv=>whnf))
  refine Gp (x:=⟨b,111,sp⟩) He rfl rfl rfl λ R M g1 g2=>?_
  ((conv=>whnf);repeat(refine⟨Zz_,?_⟩;(try simp(disch:=omega)only[Zz0,B,F,G,E]);conv=>whnf))
  intro a4 H4;refine⟨by rw[H4.size,Y.size],_,H4.get,?_⟩;rw[H4.ds]
  ((conv=>whnf);repeat(refine⟨Zz_,?_⟩;(try simp(disch:=omega)only[Zz0,B,F,G,E]);conv=>whnf))
  exact Z R M _ g1 g2
 case' neg.inl.inl.inr.inr.true=>
  intro a1 K;refine Zf _ K GZ ?_
  ((conv=>whnf);repeat(refine⟨Zz_,?_⟩;(try simp(disch:=omega)only[Zz0,B,F,G,E]);conv=>whnf))
  refine XA (x:=⟨b,111,sp⟩) (m:=.enable) (d':=0) (.inr rfl) J8 rfl rfl rfl ?_
  ((conv=>whnf);repeat(refine⟨Zz_,?_⟩;(try simp(disch:=omega)only[Zz0,B,F,G,E]);conv=>whnf))
  intro a2 S;refine⟨by rw[S.size,K.size],_,S.get,?_⟩;rw[S.ds];clear S K a1
  ((conv=>whnf);repeat(refine⟨Zz_,?_⟩;(try simp(disch:=omega)only[Zz0,B,F,G,E]);conv=>whnf))
  intro a3 Y;refine Zf _ Y G_ ?_
  ((conv=>whnf);repeat(refine⟨Zz_,?_⟩;(try simp(disch:=omega)only[Zz0,B,F,G,E]);conv=>whnf))
  refine H0 (x:=⟨b,111,sp⟩) (bs:=[(b,false),(b,false)]) (v:=.pb b) (λ st sm=>K1) Z9 (Wr _ _) rfl ?_
  ((conv=>whnf);repeat(refine⟨Zz_,?_⟩;(try simp(disch:=omega)only[Zz0,B,F,G,E]);conv=>whnf))
  refine Gp (x:=⟨b,111,sp⟩) He rfl rfl rfl λ R M g1 g2=>?_
  ((conv=>whnf);repeat(refine⟨Zz_,?_⟩;(try simp(disch:=omega)only[Zz0,B,F,G,E]);conv=>whnf))
  intro a4 H4;refine⟨by rw[H4.size,Y.size],_,H4.get,?_⟩;rw[H4.ds]
  ((conv=>whnf);repeat(refine⟨Zz_,?_⟩;(try simp(disch:=omega)only[Zz0,B,F,G,E]);conv=>whnf))
  exact Z R M _ g1 g2
 all_goals refine Qe (λ hc=>?_) (λ hc=>?_)
 all_goals((conv=>whnf))
 case' neg.inr.inl.inl.refine_1=>
  intro a1 K;refine Zf _ K Gb ?_
  ((conv=>whnf);repeat(refine⟨Zz_,?_⟩;(try simp(disch:=omega)only[Zz0,B,F,G,E]);conv=>whnf))
  refine HK rfl Tryz.func146 K1 K1 HF HE K1 λ n1=>?_
  ((conv=>whnf);repeat(refine⟨Zz_,?_⟩;(try simp(disch:=omega)only[Zz0,B,F,G,E]);conv=>whnf))
  intro a2 S;refine⟨by rw[S.size,K.size],_,S.get,?_⟩;rw[S.ds];clear S K a1
  ((conv=>whnf);repeat(refine⟨Zz_,?_⟩;(try simp(disch:=omega)only[Zz0,B,F,G,E]);conv=>whnf))
 case' neg.inr.inr.inl.refine_1=>
  intro a1 K;refine Zf _ K Gb ?_
  ((conv=>whnf);repeat(refine⟨Zz_,?_⟩;(try simp(disch:=omega)only[Zz0,B,F,G,E]);conv=>whnf))
  refine HK rfl Tryz.func146 K1 K1 HF HE K1 λ n1=>?_
  ((conv=>whnf);repeat(refine⟨Zz_,?_⟩;(try simp(disch:=omega)only[Zz0,B,F,G,E]);conv=>whnf))
  intro a2 S;refine⟨by rw[S.size,K.size],_,S.get,?_⟩;rw[S.ds];clear S K a1
  ((conv=>whnf);repeat(refine⟨Zz_,?_⟩;(try simp(disch:=omega)only[Zz0,B,F,G,E]);conv=>whnf))
 case' pos.inl.refine_1=>
  intro a1 K;refine Zf _ K Gb ?_
  ((conv=>whnf);repeat(refine⟨Zz_,?_⟩;(try simp(disch:=omega)only[Zz0,B,F,G,E]);conv=>whnf))
  refine HK rfl Tryz.func146 K1 K1 HF HE K1 λ n1=>?_
  ((conv=>whnf);repeat(refine⟨Zz_,?_⟩;(try simp(disch:=omega)only[Zz0,B,F,G,E]);conv=>whnf))
  intro a2 S;refine⟨by rw[S.size,K.size],_,S.get,?_⟩;rw[S.ds];clear S K a1
  ((conv=>whnf);repeat(refine⟨Zz_,?_⟩;(try simp(disch:=omega)only[Zz0,B,F,G,E]);conv=>whnf))
 case' pos.inr.inl.refine_1=>
  intro a1 K;refine Zf _ K Gb ?_
  ((conv=>whnf);repeat(refine⟨Zz_,?_⟩;(try simp(disch:=omega)only[Zz0,B,F,G,E]);conv=>whnf))
  refine HK rfl Tryz.func146 K1 K1 HF HE K1 λ n1=>?_
  ((conv=>whnf);repeat(refine⟨Zz_,?_⟩;(try simp(disch:=omega)only[Zz0,B,F,G,E]);conv=>whnf))
  intro a2 S;refine⟨by rw[S.size,K.size],_,S.get,?_⟩;rw[S.ds];clear S K a1
  ((conv=>whnf);repeat(refine⟨Zz_,?_⟩;(try simp(disch:=omega)only[Zz0,B,F,G,E]);conv=>whnf))
 case' pos.inr.inr.false.refine_1=>
  intro a1 K;refine Zf _ K Gb ?_
  ((conv=>whnf);repeat(refine⟨Zz_,?_⟩;(try simp(disch:=omega)only[Zz0,B,F,G,E]);conv=>whnf))
  refine HK rfl Tryz.func146 K1 K1 HF HE K1 λ n1=>?_
  ((conv=>whnf);repeat(refine⟨Zz_,?_⟩;(try simp(disch:=omega)only[Zz0,B,F,G,E]);conv=>whnf))
  intro a2 S;refine⟨by rw[S.size,K.size],_,S.get,?_⟩;rw[S.ds];clear S K a1
  ((conv=>whnf);repeat(refine⟨Zz_,?_⟩;(try simp(disch:=omega)only[Zz0,B,F,G,E]);conv=>whnf))
 case' pos.inr.inr.true.refine_1=>
  intro a1 K;refine Zf _ K Gb ?_
  ((conv=>whnf);repeat(refine⟨Zz_,?_⟩;(try simp(disch:=omega)only[Zz0,B,F,G,E]);conv=>whnf))
  refine HK rfl Tryz.func146 K1 K1 HF HE K1 λ n1=>?_
  ((conv=>whnf);repeat(refine⟨Zz_,?_⟩;(try simp(disch:=omega)only[Zz0,B,F,G,E]);conv=>whnf))
  intro a2 S;refine⟨by rw[S.size,K.size],_,S.get,?_⟩;rw[S.ds];clear S K a1
  ((conv=>whnf);repeat(refine⟨Zz_,?_⟩;(try simp(disch:=omega)only[Zz0,B,F,G,E]);conv=>whnf))
 all_goals intro a1 K
 all_goals refine Zf _ K RA ?_
 all_goals((conv=>whnf);repeat(refine⟨Zz_,?_⟩;(try simp(disch:=omega)only[Zz0,B,F,G,E]);conv=>whnf))
 all_goals refine Mx (x:=⟨b,111,sp⟩) (ps:=[_,_]) FB rfl rfl rfl λ ay al=>?_
 all_goals((conv=>whnf);repeat(refine⟨Zz_,?_⟩;(try simp(disch:=omega)only[Zz0,B,F,G,E]);conv=>whnf))
 all_goals intro a2 S
 all_goals refine⟨by rw[S.size,K.size],_,S.get,?_⟩
 all_goals rw[S.ds]
 all_goals clear S K a1
 all_goals((conv=>whnf);repeat(refine⟨Zz_,?_⟩;(try simp(disch:=omega)only[Zz0,B,F,G,E]);conv=>whnf))
 all_goals intro a3 Y
 all_goals refine Zf _ Y RB ?_
 all_goals((conv=>whnf);repeat(refine⟨Zz_,?_⟩;(try simp(disch:=omega)only[Zz0,B,F,G,E]);conv=>whnf))
 all_goals try refine HK rfl Tryz.func146 K1 K1 HF HE K1 λ n2=>?_
 all_goals((conv=>whnf);repeat(refine⟨Zz_,?_⟩;(try simp(disch:=omega)only[Zz0,B,F,G,E]);conv=>whnf))
 all_goals try(first
  |refine H0 (x:=⟨b,111,sp⟩) (bs:=[]) (v:=.int .i64 (IntKind.wrap .i64 (n2-n1))) (λ st sm=>K1) Z0 (Wr _ _) rfl ?_
  |refine H0 (x:=⟨b,111,sp⟩) (bs:=[]) (v:=.int .i64 (IntKind.wrap .i64 (n2-ws))) (λ st sm=>K1) Z0 (Wr _ _) rfl ?_)
 all_goals((conv=>whnf);repeat(refine⟨Zz_,?_⟩;(try simp(disch:=omega)only[Zz0,B,F,G,E]);conv=>whnf))
 all_goals intro a4 H4
 all_goals refine⟨by rw[H4.size,Y.size],_,H4.get,?_⟩
 all_goals rw[H4.ds]
 all_goals clear H4 Y a3
 all_goals((conv=>whnf);repeat(refine⟨Zz_,?_⟩;(try simp(disch:=omega)only[Zz0,B,F,G,E]);conv=>whnf))
 all_goals intro a5 T
 all_goals refine Zf _ T RC ?_
 all_goals((conv=>whnf);repeat(refine⟨Zz_,?_⟩;(try simp(disch:=omega)only[Zz0,B,F,G,E]);conv=>whnf))
 all_goals obtain rfl|rfl:=al
 case' neg.inr.inl.inl.refine_1.inl=>
  refine JV (x:=⟨b,111,sp⟩) (es:=#[⟨.cell ⟨b,0,none⟩,false,false⟩]) (λ st sm=>K1) K1 rfl λ L p3 k1 k2 X N=>?_
  ((conv=>whnf);repeat(refine⟨Zz_,?_⟩;(try simp(disch:=omega)only[Zz0,B,F,G,E]);conv=>whnf))
  intro a6 P;refine⟨by rw[P.size,T.size],_,P.get,?_⟩;rw[P.ds];clear P T a5
  ((conv=>whnf);repeat(refine⟨Zz_,?_⟩;(try simp(disch:=omega)only[Zz0,B,F,G,E]);conv=>whnf))
  have V:=Jj N rfl;have W:L.st<512:=by(have Z:=N;obtain⟨j1,j2,j3,j4,j5,-⟩:=Z;unfold LZ.st;omega)
  rw[Qh W,<- V.2.1];have I:=N.2.2.2.2.2;simp only at I;rw[I.2.1]
  ((conv=>whnf);repeat(refine⟨Zz_,?_⟩;(try simp(disch:=omega)only[Zz0,B,F,G,E]);conv=>whnf))
  refine⟨⟨_,_,true,0,L.st,.wok _,(p3,L.st)⟩,T1,⟨rfl,by simp only;omega,X,rfl,⟨L,rfl,N⟩,.inr (.inr ⟨_,rfl,rfl⟩)⟩,?_⟩;refine LY.mu_lt X hp (.inl ?_);simp only[LY.rk];omega
 case' neg.inr.inl.inl.refine_2.inl=>
  refine JV (x:=⟨b,111,sp⟩) (es:=#[⟨.cell ⟨b,0,none⟩,false,false⟩]) (λ st sm=>K1) K1 rfl λ L p3 k1 k2 X N=>?_
  ((conv=>whnf);repeat(refine⟨Zz_,?_⟩;(try simp(disch:=omega)only[Zz0,B,F,G,E]);conv=>whnf))
  intro a6 P;refine⟨by rw[P.size,T.size],_,P.get,?_⟩;rw[P.ds];clear P T a5
  ((conv=>whnf);repeat(refine⟨Zz_,?_⟩;(try simp(disch:=omega)only[Zz0,B,F,G,E]);conv=>whnf))
  have V:=Jj N rfl;have W:L.st<512:=by(have Z:=N;obtain⟨j1,j2,j3,j4,j5,-⟩:=Z;unfold LZ.st;omega)
  rw[Qh W,<- V.2.1];have I:=N.2.2.2.2.2;simp only at I;rw[I.2.1]
  ((conv=>whnf);repeat(refine⟨Zz_,?_⟩;(try simp(disch:=omega)only[Zz0,B,F,G,E]);conv=>whnf))
  refine⟨⟨_,_,true,0,L.st,.wok _,(p3,L.st)⟩,T1,⟨rfl,by simp only;omega,X,rfl,⟨L,rfl,N⟩,.inr (.inr ⟨_,rfl,rfl⟩)⟩,?_⟩;refine LY.mu_lt X hp (.inl ?_);simp only[LY.rk];omega
 case' neg.inr.inr.inl.refine_1.inl=>
  refine JV (x:=⟨b,111,sp⟩) (es:=#[⟨.cell ⟨b,0,none⟩,false,false⟩]) (λ st sm=>K1) K1 rfl λ L p3 k1 k2 X N=>?_
  ((conv=>whnf);repeat(refine⟨Zz_,?_⟩;(try simp(disch:=omega)only[Zz0,B,F,G,E]);conv=>whnf))
  intro a6 P;refine⟨by rw[P.size,T.size],_,P.get,?_⟩;rw[P.ds];clear P T a5
  ((conv=>whnf);repeat(refine⟨Zz_,?_⟩;(try simp(disch:=omega)only[Zz0,B,F,G,E]);conv=>whnf))
  have V:=Jj N rfl;have W:L.st<512:=by(have Z:=N;obtain⟨j1,j2,j3,j4,j5,-⟩:=Z;unfold LZ.st;omega)
  rw[Qh W,<- V.2.1];have I:=N.2.2.2.2.2;simp only at I;rw[I.2.1]
  ((conv=>whnf);repeat(refine⟨Zz_,?_⟩;(try simp(disch:=omega)only[Zz0,B,F,G,E]);conv=>whnf))
  refine⟨⟨_,_,true,0,L.st,.wok _,(p3,L.st)⟩,T1,⟨rfl,by simp only;omega,X,rfl,⟨L,rfl,N⟩,.inr (.inr ⟨_,rfl,rfl⟩)⟩,?_⟩;refine LY.mu_lt X hp (.inl ?_);simp only[LY.rk];omega
 case' neg.inr.inr.inl.refine_2.inl=>
  refine JV (x:=⟨b,111,sp⟩) (es:=#[⟨.cell ⟨b,0,none⟩,false,false⟩]) (λ st sm=>K1) K1 rfl λ L p3 k1 k2 X N=>?_
  ((conv=>whnf);repeat(refine⟨Zz_,?_⟩;(try simp(disch:=omega)only[Zz0,B,F,G,E]);conv=>whnf))
  intro a6 P;refine⟨by rw[P.size,T.size],_,P.get,?_⟩;rw[P.ds];clear P T a5
  ((conv=>whnf);repeat(refine⟨Zz_,?_⟩;(try simp(disch:=omega)only[Zz0,B,F,G,E]);conv=>whnf))
  have V:=Jj N rfl;have W:L.st<512:=by(have Z:=N;obtain⟨j1,j2,j3,j4,j5,-⟩:=Z;unfold LZ.st;omega)
  rw[Qh W,<- V.2.1];have I:=N.2.2.2.2.2;simp only at I;rw[I.2.1]
  ((conv=>whnf);repeat(refine⟨Zz_,?_⟩;(try simp(disch:=omega)only[Zz0,B,F,G,E]);conv=>whnf))
  refine⟨⟨_,_,true,0,L.st,.wok _,(p3,L.st)⟩,T1,⟨rfl,by simp only;omega,X,rfl,⟨L,rfl,N⟩,.inr (.inr ⟨_,rfl,rfl⟩)⟩,?_⟩;refine LY.mu_lt X hp (.inl ?_);simp only[LY.rk];omega
 case' pos.inl.refine_1.inl=>
  refine JV (x:=⟨b,111,sp⟩) (es:=#[⟨.cell ⟨b,0,none⟩,false,false⟩]) (λ st sm=>K1) K1 rfl λ L p3 k1 k2 X N=>?_
  ((conv=>whnf);repeat(refine⟨Zz_,?_⟩;(try simp(disch:=omega)only[Zz0,B,F,G,E]);conv=>whnf))
  intro a6 P;refine⟨by rw[P.size,T.size],_,P.get,?_⟩;rw[P.ds];clear P T a5
  ((conv=>whnf);repeat(refine⟨Zz_,?_⟩;(try simp(disch:=omega)only[Zz0,B,F,G,E]);conv=>whnf))
  have V:=Jj N rfl;have W:L.st<512:=by(have Z:=N;obtain⟨j1,j2,j3,j4,j5,-⟩:=Z;unfold LZ.st;omega)
  rw[Qh W,<- V.2.1];have I:=N.2.2.2.2.2;simp only at I;rw[I.2.1]
  ((conv=>whnf);repeat(refine⟨Zz_,?_⟩;(try simp(disch:=omega)only[Zz0,B,F,G,E]);conv=>whnf))
  refine⟨⟨_,_,true,0,L.st,.wok _,(p3,L.st)⟩,T1,⟨rfl,by simp only;omega,X,rfl,⟨L,rfl,N⟩,.inr (.inr ⟨_,rfl,rfl⟩)⟩,?_⟩;refine LY.mu_lt X hp (.inl ?_);simp only[LY.rk];omega
 case' pos.inl.refine_2.inl=>
  refine JV (x:=⟨b,111,sp⟩) (es:=#[⟨.cell ⟨b,0,none⟩,false,false⟩]) (λ st sm=>K1) K1 rfl λ L p3 k1 k2 X N=>?_
  ((conv=>whnf);repeat(refine⟨Zz_,?_⟩;(try simp(disch:=omega)only[Zz0,B,F,G,E]);conv=>whnf))
  intro a6 P;refine⟨by rw[P.size,T.size],_,P.get,?_⟩;rw[P.ds];clear P T a5
  ((conv=>whnf);repeat(refine⟨Zz_,?_⟩;(try simp(disch:=omega)only[Zz0,B,F,G,E]);conv=>whnf))
  have V:=Jj N rfl;have W:L.st<512:=by(have Z:=N;obtain⟨j1,j2,j3,j4,j5,-⟩:=Z;unfold LZ.st;omega)
  rw[Qh W,<- V.2.1];have I:=N.2.2.2.2.2;simp only at I;rw[I.2.1]
  ((conv=>whnf);repeat(refine⟨Zz_,?_⟩;(try simp(disch:=omega)only[Zz0,B,F,G,E]);conv=>whnf))
  refine⟨⟨_,_,true,0,L.st,.wok _,(p3,L.st)⟩,T1,⟨rfl,by simp only;omega,X,rfl,⟨L,rfl,N⟩,.inr (.inr ⟨_,rfl,rfl⟩)⟩,?_⟩;refine LY.mu_lt X hp (.inl ?_);simp only[LY.rk];omega
 case' pos.inr.inl.refine_1.inl=>
  refine JV (x:=⟨b,111,sp⟩) (es:=#[⟨.cell ⟨b,0,none⟩,false,false⟩]) (λ st sm=>K1) K1 rfl λ L p3 k1 k2 X N=>?_
  ((conv=>whnf);repeat(refine⟨Zz_,?_⟩;(try simp(disch:=omega)only[Zz0,B,F,G,E]);conv=>whnf))
  intro a6 P;refine⟨by rw[P.size,T.size],_,P.get,?_⟩;rw[P.ds];clear P T a5
  ((conv=>whnf);repeat(refine⟨Zz_,?_⟩;(try simp(disch:=omega)only[Zz0,B,F,G,E]);conv=>whnf))
  have V:=Jj N rfl;have W:L.st<512:=by(have Z:=N;obtain⟨j1,j2,j3,j4,j5,-⟩:=Z;unfold LZ.st;omega)
  rw[Qh W,<- V.2.1];have I:=N.2.2.2.2.2;simp only at I;rw[I.2.1]
  ((conv=>whnf);repeat(refine⟨Zz_,?_⟩;(try simp(disch:=omega)only[Zz0,B,F,G,E]);conv=>whnf))
  refine⟨⟨_,_,true,0,L.st,.wok _,(p3,L.st)⟩,T1,⟨rfl,by simp only;omega,X,rfl,⟨L,rfl,N⟩,.inr (.inr ⟨_,rfl,rfl⟩)⟩,?_⟩;refine LY.mu_lt X hp (.inl ?_);simp only[LY.rk];omega
 case' pos.inr.inl.refine_2.inl=>
  refine JV (x:=⟨b,111,sp⟩) (es:=#[⟨.cell ⟨b,0,none⟩,false,false⟩]) (λ st sm=>K1) K1 rfl λ L p3 k1 k2 X N=>?_
  ((conv=>whnf);repeat(refine⟨Zz_,?_⟩;(try simp(disch:=omega)only[Zz0,B,F,G,E]);conv=>whnf))
  intro a6 P;refine⟨by rw[P.size,T.size],_,P.get,?_⟩;rw[P.ds];clear P T a5
  ((conv=>whnf);repeat(refine⟨Zz_,?_⟩;(try simp(disch:=omega)only[Zz0,B,F,G,E]);conv=>whnf))
  have V:=Jj N rfl;have W:L.st<512:=by(have Z:=N;obtain⟨j1,j2,j3,j4,j5,-⟩:=Z;unfold LZ.st;omega)
  rw[Qh W,<- V.2.1];have I:=N.2.2.2.2.2;simp only at I;rw[I.2.1]
  ((conv=>whnf);repeat(refine⟨Zz_,?_⟩;(try simp(disch:=omega)only[Zz0,B,F,G,E]);conv=>whnf))
  refine⟨⟨_,_,true,0,L.st,.wok _,(p3,L.st)⟩,T1,⟨rfl,by simp only;omega,X,rfl,⟨L,rfl,N⟩,.inr (.inr ⟨_,rfl,rfl⟩)⟩,?_⟩;refine LY.mu_lt X hp (.inl ?_);simp only[LY.rk];omega
 case' pos.inr.inr.false.refine_1.inl=>
  refine JV (x:=⟨b,111,sp⟩) (es:=#[⟨.cell ⟨b,0,none⟩,false,false⟩]) (λ st sm=>K1) K1 rfl λ L p3 k1 k2 X N=>?_
  ((conv=>whnf);repeat(refine⟨Zz_,?_⟩;(try simp(disch:=omega)only[Zz0,B,F,G,E]);conv=>whnf))
  intro a6 P;refine⟨by rw[P.size,T.size],_,P.get,?_⟩;rw[P.ds];clear P T a5
  ((conv=>whnf);repeat(refine⟨Zz_,?_⟩;(try simp(disch:=omega)only[Zz0,B,F,G,E]);conv=>whnf))
  have V:=Jj N rfl;have W:L.st<512:=by(have Z:=N;obtain⟨j1,j2,j3,j4,j5,-⟩:=Z;unfold LZ.st;omega)
  rw[Qh W,<- V.2.1];have I:=N.2.2.2.2.2;simp only at I;rw[I.2.1]
  ((conv=>whnf);repeat(refine⟨Zz_,?_⟩;(try simp(disch:=omega)only[Zz0,B,F,G,E]);conv=>whnf))
  refine⟨⟨_,_,true,0,L.st,.wok _,(p3,L.st)⟩,T1,⟨rfl,by simp only;omega,X,rfl,⟨L,rfl,N⟩,.inr (.inr ⟨_,rfl,rfl⟩)⟩,?_⟩;refine LY.mu_lt X hp (.inl ?_);simp only[LY.rk];omega
 case' pos.inr.inr.false.refine_2.inl=>
  refine JV (x:=⟨b,111,sp⟩) (es:=#[⟨.cell ⟨b,0,none⟩,false,false⟩]) (λ st sm=>K1) K1 rfl λ L p3 k1 k2 X N=>?_
  ((conv=>whnf);repeat(refine⟨Zz_,?_⟩;(try simp(disch:=omega)only[Zz0,B,F,G,E]);conv=>whnf))
  intro a6 P;refine⟨by rw[P.size,T.size],_,P.get,?_⟩;rw[P.ds];clear P T a5
  ((conv=>whnf);repeat(refine⟨Zz_,?_⟩;(try simp(disch:=omega)only[Zz0,B,F,G,E]);conv=>whnf))
  have V:=Jj N rfl;have W:L.st<512:=by(have Z:=N;obtain⟨j1,j2,j3,j4,j5,-⟩:=Z;unfold LZ.st;omega)
  rw[Qh W,<- V.2.1];have I:=N.2.2.2.2.2;simp only at I;rw[I.2.1]
  ((conv=>whnf);repeat(refine⟨Zz_,?_⟩;(try simp(disch:=omega)only[Zz0,B,F,G,E]);conv=>whnf))
  refine⟨⟨_,_,true,0,L.st,.wok _,(p3,L.st)⟩,T1,⟨rfl,by simp only;omega,X,rfl,⟨L,rfl,N⟩,.inr (.inr ⟨_,rfl,rfl⟩)⟩,?_⟩;refine LY.mu_lt X hp (.inl ?_);simp only[LY.rk];omega
 case' pos.inr.inr.true.refine_1.inl=>
  refine JV (x:=⟨b,111,sp⟩) (es:=#[⟨.cell ⟨b,0,none⟩,false,false⟩]) (λ st sm=>K1) K1 rfl λ L p3 k1 k2 X N=>?_
  ((conv=>whnf);repeat(refine⟨Zz_,?_⟩;(try simp(disch:=omega)only[Zz0,B,F,G,E]);conv=>whnf))
  intro a6 P;refine⟨by rw[P.size,T.size],_,P.get,?_⟩;rw[P.ds];clear P T a5
  ((conv=>whnf);repeat(refine⟨Zz_,?_⟩;(try simp(disch:=omega)only[Zz0,B,F,G,E]);conv=>whnf))
  have V:=Jj N rfl;have W:L.st<512:=by(have Z:=N;obtain⟨j1,j2,j3,j4,j5,-⟩:=Z;unfold LZ.st;omega)
  rw[Qh W,<- V.2.1];have I:=N.2.2.2.2.2;simp only at I;rw[I.2.1]
  ((conv=>whnf);repeat(refine⟨Zz_,?_⟩;(try simp(disch:=omega)only[Zz0,B,F,G,E]);conv=>whnf))
  refine⟨⟨_,_,true,0,L.st,.wok _,(p3,L.st)⟩,T1,⟨rfl,by simp only;omega,X,rfl,⟨L,rfl,N⟩,.inr (.inr ⟨_,rfl,rfl⟩)⟩,?_⟩;refine LY.mu_lt X hp (.inl ?_);simp only[LY.rk];omega
 case' pos.inr.inr.true.refine_2.inl=>
  refine JV (x:=⟨b,111,sp⟩) (es:=#[⟨.cell ⟨b,0,none⟩,false,false⟩]) (λ st sm=>K1) K1 rfl λ L p3 k1 k2 X N=>?_
  ((conv=>whnf);repeat(refine⟨Zz_,?_⟩;(try simp(disch:=omega)only[Zz0,B,F,G,E]);conv=>whnf))
  intro a6 P;refine⟨by rw[P.size,T.size],_,P.get,?_⟩;rw[P.ds];clear P T a5
  ((conv=>whnf);repeat(refine⟨Zz_,?_⟩;(try simp(disch:=omega)only[Zz0,B,F,G,E]);conv=>whnf))
  have V:=Jj N rfl;have W:L.st<512:=by(have Z:=N;obtain⟨j1,j2,j3,j4,j5,-⟩:=Z;unfold LZ.st;omega)
  rw[Qh W,<- V.2.1];have I:=N.2.2.2.2.2;simp only at I;rw[I.2.1]
  ((conv=>whnf);repeat(refine⟨Zz_,?_⟩;(try simp(disch:=omega)only[Zz0,B,F,G,E]);conv=>whnf))
  refine⟨⟨_,_,true,0,L.st,.wok _,(p3,L.st)⟩,T1,⟨rfl,by simp only;omega,X,rfl,⟨L,rfl,N⟩,.inr (.inr ⟨_,rfl,rfl⟩)⟩,?_⟩;refine LY.mu_lt X hp (.inl ?_);simp only[LY.rk];omega
 all_goals refine My (x:=⟨b,111,sp⟩) (es:=#[⟨.cell ⟨b,0,none⟩,false,false⟩]) (λ st sm=>K1) K1 rfl λ L p3 X N=>?_
 all_goals((conv=>whnf);repeat(refine⟨Zz_,?_⟩;(try simp(disch:=omega)only[Zz0,B,F,G,E]);conv=>whnf))
 all_goals intro a6 P
 all_goals refine⟨by rw[P.size,T.size],_,P.get,?_⟩
 all_goals rw[P.ds]
 all_goals clear P T a5
 all_goals((conv=>whnf);repeat(refine⟨Zz_,?_⟩;(try simp(disch:=omega)only[Zz0,B,F,G,E]);conv=>whnf))
 all_goals(have V:=Jj N rfl;have W:L.st<512:=by(have Z:=N;obtain⟨j1,j2,j3,j4,j5,-⟩:=Z;unfold LZ.st;omega))
 all_goals rw[Qh W,<- V.2.1]
 all_goals have I:=N.2.2.2.2.2
 all_goals simp only at I
 all_goals rw[I.2.2.1]
 all_goals have B:L.st % 4=0:=O1
 all_goals have E:L.st / 8=L.n:=O1
 all_goals((conv=>whnf);repeat(refine⟨Zz_,?_⟩;(try simp(disch:=omega)only[Zz0,B,F,G,E]);conv=>whnf))
 all_goals refine Qe (λ hc=>absurd (beq_iff_eq.1 hc) O1) (λ hc=>?_)
 all_goals((conv=>whnf);repeat(refine⟨Zz_,?_⟩;(try simp(disch:=omega)only[Zz0,B,F,G,E]);conv=>whnf))
 all_goals try refine Jb (λ am=>?_) (λ am=>?_)
 all_goals((conv=>whnf);repeat(refine⟨Zz_,?_⟩;(try simp(disch:=omega)only[Zz0,B,F,G,E]);conv=>whnf))
 all_goals try refine Qe (λ ah=>?_) (λ ah=>?_)
 all_goals((conv=>whnf);repeat(refine⟨Zz_,?_⟩;(try simp(disch:=omega)only[Zz0,B,F,G,E]);conv=>whnf))
 all_goals intro a7 ae
 all_goals refine Zf _ ae RD ?_
 all_goals((conv=>whnf);repeat(refine⟨Zz_,?_⟩;(try simp(disch:=omega)only[Zz0,B,F,G,E]);conv=>whnf))
 all_goals first
  |refine YY (x:=⟨b,111,sp⟩) (δ:=-7) Yd rfl rfl rfl rfl λ z4 p4 j1 j2 _=>?_
  |refine YY (x:=⟨b,111,sp⟩) (δ:=-11) Yd rfl rfl rfl rfl λ z4 p4 j1 j2 _=>?_
 all_goals obtain⟨l4,w4,s4,n4,f4⟩:=z4
 all_goals obtain⟨-,-,-,-,jn,j3,j4,j5,j6,j7⟩:=j2
 all_goals simp only at jn j3 j4 j5 j6 j7
 all_goals subst j3 j4 j5
 all_goals obtain⟨m4,rfl⟩:∃m,n4=m+1:=⟨n4-1,O1⟩
 all_goals first
  |refine⟨.got,⟨1,0,1,m4,f4⟩,.tak rfl rfl (.inr ⟨rfl,(by have:=beq_eq_false_iff_ne.1 ah;omega)⟩),(by rw[show(((LZ.st ⟨0,0,1,m4+1,f4⟩:Nat):Int)+(-7))=((LZ.st ⟨1,0,1,m4,f4⟩:Nat):Int) by(unfold LZ.st;simp only;omega)];exact PR (by unfold LZ.st;simp only;omega)),rfl,rfl,rfl,?_⟩
  |refine⟨.got,⟨1,0,0,m4,f4⟩,.tak rfl rfl (.inl rfl),(by rw[show(((LZ.st ⟨0,0,1,m4+1,f4⟩:Nat):Int)+(-11))=((LZ.st ⟨1,0,0,m4,f4⟩:Nat):Int) by(unfold LZ.st;simp only;omega)];exact PR (by unfold LZ.st;simp only;omega)),rfl,rfl,rfl,?_⟩
 all_goals((conv=>whnf);repeat(refine⟨Zz_,?_⟩;(try simp(disch:=omega)only[Zz0,B,F,G,E]);conv=>whnf))
 all_goals intro a8 H8
 all_goals refine⟨by rw[H8.size,ae.size],_,H8.get,?_⟩
 all_goals rw[H8.ds]
 all_goals clear H8 ae a7
 all_goals((conv=>whnf);repeat(refine⟨Zz_,?_⟩;(try simp(disch:=omega)only[Zz0,B,F,G,E]);conv=>whnf))
 all_goals intro b1 af
 all_goals refine Zf _ af GZ ?_
 all_goals((conv=>whnf);repeat(refine⟨Zz_,?_⟩;(try simp(disch:=omega)only[Zz0,B,F,G,E]);conv=>whnf))
 all_goals refine XA (x:=⟨b,111,sp⟩) (m:=.enable) (d':=0) (.inr rfl) J8 rfl rfl rfl ?_
 all_goals((conv=>whnf);repeat(refine⟨Zz_,?_⟩;(try simp(disch:=omega)only[Zz0,B,F,G,E]);conv=>whnf))
 all_goals intro b2 G2
 all_goals refine⟨by rw[G2.size,af.size],_,G2.get,?_⟩
 all_goals rw[G2.ds]
 all_goals clear G2 af b1
 all_goals((conv=>whnf);repeat(refine⟨Zz_,?_⟩;(try simp(disch:=omega)only[Zz0,B,F,G,E]);conv=>whnf))
 all_goals intro b3 ai
 all_goals refine Zf _ ai G_ ?_
 all_goals((conv=>whnf);repeat(refine⟨Zz_,?_⟩;(try simp(disch:=omega)only[Zz0,B,F,G,E]);conv=>whnf))
 all_goals refine H0 (x:=⟨b,111,sp⟩) (bs:=[(b,false),(b,false)]) (v:=.pb b) (λ st sm=>K1) Z9 (Wr _ _) rfl ?_
 all_goals((conv=>whnf);repeat(refine⟨Zz_,?_⟩;(try simp(disch:=omega)only[Zz0,B,F,G,E]);conv=>whnf))
 all_goals refine Gp (x:=⟨b,111,sp⟩) He rfl rfl rfl λ R M g1 g2=>?_
 all_goals((conv=>whnf);repeat(refine⟨Zz_,?_⟩;(try simp(disch:=omega)only[Zz0,B,F,G,E]);conv=>whnf))
 all_goals intro b4 G4
 all_goals refine⟨by rw[G4.size,ai.size],_,G4.get,?_⟩
 all_goals rw[G4.ds]
 all_goals((conv=>whnf);repeat(refine⟨Zz_,?_⟩;(try simp(disch:=omega)only[Zz0,B,F,G,E]);conv=>whnf))
 all_goals exact Z R M _ g1 g2
def X6.of(k:Zg P g N cc [])(hm:P.follows .mixedOrders=true)(hn:args.length<=N){U:Qa T}{Q:Qa T->Prop}
  (h:JM S g none cc (λ _ ds U=>ds=[]/\Q U) (λ _ _ _ _=>False) (λ _ ds U=>ds=[]/\Q U) (fm args) [] U):X6 S g args.toArray Q U:=by
 obtain⟨fd,mu,dets,X,hb,hc,rfl,M,-⟩:=k.ok;intro Stop m f cs F hq
 let b:Frame:={ (default:Frame)with fn:=g,kind:=.deferred }
 have E:Rf (Frame.enter P g args.toArray .deferred) (f::cs)=R b { tmps:=args.toArray++Array.replicate (fd.ntmps-args.toArray.size) undef,defers:=[] } [.code (fd.body.getD .skip)] (f::cs):=by
  simp only[Rf,R,Frame.enter,fr,X,b,Option.bind_some];rw[hb];rfl
 rw[E]
 have L:FR fd.ntmps { tmps:=args.toArray++Array.replicate (fd.ntmps-args.toArray.size) undef,defers:=[] } (fm args) []:=by
  refine⟨rfl,S3,λ t=>?_⟩;simp only[fm,Array.getD_eq_getD_getElem?,getD_eq_getElem?_getD,Array.getElem?_append,size_toArray,getElem?_toArray];split
  .rfl
  .rename_i hlt;rw[getElem?_eq_none O1,Array.getElem?_replicate];split <;> rfl
 subst hc
 have Z:fd.results=#[]:=by
  cases Y:fd.results.toList with
  |nil=>exact Array.toList_eq_nil_iff.1 Y
  |cons x l=>rw[Y]at M;simp[mapM_cons,Option.bind_eq_some_iff]at M
 have fin:∀(a':Act)(f':Fm)(B:List Deferred)(U':Qa T),FR fd.ntmps a' f' B->B=[]->Q U'->∀todo,J S Stop m (Rf { fr b a' todo with mode:=.returning } (f::cs)) U':=by
  intro a' f' B U' z K hQ todo;obtain⟨W,dd⟩:=a';have I:dd=[]:=z.ds.trans K;subst I;have h:=Ge (P:=P) (Q:=λ _ U'=>Q U') M [] U' (show Xv f' (λ _ U'=>Q U') [] [] U' from hQ) W z.get;refine .sem _ rfl h λ w x w' es H _=>⟨Rf f cs,seen P b.fn es,?_,Jk P _ es,λ U' q=>hq U' q⟩;obtain⟨V,he⟩:Sem.run P (results fd W) w=.ok x w'/\Sem.events P (results fd W) w #[]=es:=by simpa using H
  have z:P.funcs[b.fn]?=some fd:=X;have hk:b.kind=.deferred:=rfl;obtain⟨cf,ct,aa,cd,cm,ck,cr⟩:=f;simp only at F;subst F;simp[Rf,stepG,unwind,fr,z,V,he,doReturn,hk,GStep.after]
 refine J.body (fn:=g) ⟨rfl,rfl,by simp[b],S1⟩ (Hh hm _ L h) λ e a' U' q=>?_;obtain⟨f',B,z,G⟩:=q;cases e with
 |normal=>exact⟨.inl rfl,fin a' f' B U' z G.1 G.2⟩
 |ret=>exact⟨.inr rfl,fin a' f' B U' z G.1 G.2⟩
 |exit id=>exact G.elim
def Re(X:U.tok=⟨0,.wrk bb D,some (.lok ⟨b,111,sp⟩ s .idle lo)⟩)(K:Km b bb D sp s (Q (.tuple #[])) U):Qb Zs 90 #[.pb b] Q U:=by
 refine Qb.of (args:=[_]) DN Qd S1 ?_
 conv=>whnf
 intro a1 e;refine Zf _ e BD ?_
 ((conv=>whnf);repeat(refine⟨Zz_,?_⟩;conv=>whnf))
 refine XA (x:=⟨b,111,sp⟩) (m:=.disable) (d':=1) (.inl rfl) VE rfl X rfl ?_
 ((conv=>whnf);repeat(refine⟨Zz_,?_⟩;conv=>whnf))
 intro a2 f;refine⟨by rw[f.size,e.size],_,f.get,?_⟩;rw[f.ds];clear f e a1
 ((conv=>whnf);repeat(refine⟨Zz_,?_⟩;conv=>whnf))
 intro a1 e;refine Zf _ e BE ?_
 ((conv=>whnf);repeat(refine⟨Zz_,?_⟩;conv=>whnf))
 refine VW (x:=⟨b,111,sp⟩) (w:=0) (n:=1) VD (VO b) rfl rfl rfl rfl rfl (λ z L V W H I=>?_) (λ z L V W H I Z=>?_)
 .obtain⟨l2,w2,s2,n2,f2⟩:=z;obtain⟨N,P,S,T⟩:=Jj H I;simp only at N P S T;refine⟨.got,⟨1,w2,s2,n2,f2⟩,.take O1 O1,(by unfold LZ.st;simp only;omega),rfl,rfl,rfl,?_⟩
  ((conv=>whnf);repeat(refine⟨Zz_,?_⟩;conv=>whnf))
  intro a2 f;refine⟨by rw[f.size,e.size],_,f.get,?_⟩;rw[f.ds];clear f e a1
  ((conv=>whnf);repeat(refine⟨Zz_,?_⟩;conv=>whnf))
  intro a1 e;refine Zf _ e BF ?_
  ((conv=>whnf);repeat(refine⟨Zz_,?_⟩;conv=>whnf))
  refine XA (x:=⟨b,111,sp⟩) (m:=.enable) (d':=0) (.inr rfl) J8 rfl rfl rfl ?_
  ((conv=>whnf);repeat(refine⟨Zz_,?_⟩;conv=>whnf))
  intro a2 f;refine⟨by rw[f.size,e.size],_,f.get,?_⟩;rw[f.ds];clear f e a1
  ((conv=>whnf);repeat(refine⟨Zz_,?_⟩;conv=>whnf))
  intro a3 B;refine Zf _ B BG ?_
  ((conv=>whnf);repeat(refine⟨Zz_,?_⟩;conv=>whnf))
  refine H0 (x:=⟨b,111,sp⟩) (bs:=[(b,false),(b,false)]) (v:=.pb b) (λ st sm=>K1) Z9 (Wr _ _) rfl ?_
  ((conv=>whnf);repeat(refine⟨Zz_,?_⟩;conv=>whnf))
  refine Gp (x:=⟨b,111,sp⟩) He rfl rfl rfl λ R M F G=>?_
  ((conv=>whnf);repeat(refine⟨Zz_,?_⟩;conv=>whnf))
  intro a4 E;refine⟨by rw[E.size,B.size],_,E.get,?_⟩;rw[E.ds]
  ((conv=>whnf);repeat(refine⟨Zz_,?_⟩;conv=>whnf))
  exact K R M _ F G
 ·((conv=>whnf);repeat(refine⟨Zz_,?_⟩;conv=>whnf))
  intro a2 f;refine⟨by rw[f.size,e.size],_,f.get,?_⟩;rw[f.ds];clear f e a1;refine⟨UC.any,(RG (U:=(U.lk 1 bb D ⟨b,111,sp⟩ s .idle lo).lk 1 bb D ⟨b,111,sp⟩ s .idle (L,z.st)) (Q:=λ v U'=>v=.tuple #[]/\Q (.tuple #[]) U') rfl λ R M lo F G=>⟨rfl,K R M lo F G⟩).mono ?_⟩;rintro v U'⟨rfl,Y⟩-
  ((conv=>whnf);repeat(refine⟨Zz_,?_⟩;conv=>whnf))
  exact Y
def C3(z:U.tok=⟨0,.wrk bb D,some (.lok ⟨b,111,sp⟩ s .idle lo)⟩)(w:Km b bb D sp s (Q (.tuple #[])) U):Qb Zs 65 #[.pb b] Q U:=by
 refine Qb.of (args:=[_]) Ln Qd S1 ?_;refine⟨DN.any,(Re (Q:=λ v U'=>v=.tuple #[]/\Q (.tuple #[]) U') z λ R M lo e f=>⟨rfl,w R M lo e f⟩).mono ?_⟩;rintro v U'⟨rfl,B⟩-
 ((conv=>whnf);repeat(refine⟨Zz_,?_⟩;conv=>whnf))
 exact B
def GV(me:LP)(w:Nat):Prop:=(me=.unl/\w % 8=0/\0<w / 8)\/(me=.fin/\(w % 8≠0\/w / 8=0))
def Ri(Y:U.tok=⟨1,.wrk bb D,some (.lok ⟨b,111,sp⟩ s me (u,n))⟩)(N:n<511)(Z:n % 2=0)(L:u<=PB 20)(G:(n / 4 % 2=0/\GV me n)\/(n / 4 % 2=1/\me=.uls))
  (M:∀lo,Q (.tuple #[]) (U.lk 1 bb D ⟨b,111,sp⟩ s .fin lo)):Qb Zs 124 #[.pb b,QB n] Q U:=by
 refine Qb.of (args:=[_,_]) UD Qd S1 ?_
 (conv=>whnf);repeat(refine⟨Zz_,?_⟩;(try simp(disch:=omega)only[Zz1]);conv=>whnf)
 refine Qe (λ F=>absurd (beq_iff_eq.1 F) O1) (λ F=>?_)
 (conv=>whnf);repeat(refine⟨Zz_,?_⟩;(try simp(disch:=omega)only[Zz1]);conv=>whnf)
 apply Qe<;>intro F
 .have hc4:=beq_iff_eq.1 F
  have H:GV me n:=by
   rcases G with h|h
   .exact h.2
   .omega
  refine⟨LP×Nat×Nat,λ y=>[(0,.pb b),(4,QB y.2.2)],λ y U'=>U'=U.lk 1 bb D ⟨b,111,sp⟩ s y.1 y.2/\y.2.1<=PB 20/\y.2.2<511/\GV y.1 y.2.2,λ y=>PB 20-y.2.1,(me,u,n),T1,⟨(Qa.lk_self Y).symm,L,N,H⟩,?_⟩;clear F hc4 H G L N Z Y;rintro⟨me,u,n⟩f U'⟨rfl,L,N,H⟩;simp only at L N H
  (conv=>whnf);repeat(refine⟨Zz_,?_⟩;(try simp(disch:=omega)only[Zz1]);conv=>whnf)
  rcases H with⟨rfl,h8,hn⟩|⟨rfl,h8⟩
  .refine Jb (λ F=>?_) (λ F=>absurd (beq_iff_eq.1 F) O1)
   (conv=>whnf);repeat(refine⟨Zz_,?_⟩;(try simp(disch:=omega)only[Zz1]);conv=>whnf)
   refine Qe (λ F=>absurd (bne_iff_ne.1 F) O1) (λ F=>?_)
   (conv=>whnf);repeat(refine⟨Zz_,?_⟩;(try simp(disch:=omega)only[Zz1]);conv=>whnf)
   intro a1 B;refine Zf _ B AG ?_
   (conv=>whnf);repeat(refine⟨Zz_,?_⟩;(try simp(disch:=omega)only[Zz1]);conv=>whnf)
   refine VW (x:=⟨b,111,sp⟩) (w:=n) VD (VO b) rfl rfl rfl rfl rfl (λ z p2 h1 W h3 K=>?_) (λ z p2 h1 W h3 K h5=>?_)
   .obtain⟨l2,w2,s2,n2,f2⟩:=z;obtain⟨P,S,T,V⟩:=Jj h3 K;simp only at P S T V;obtain⟨m2,rfl⟩:∃m,n2=m+1:=⟨n2-1,O1⟩;refine⟨.unl2,⟨l2,1,s2,m2,f2⟩,.wake O1 O1 O1,(by rw[<- K];unfold LZ.st;simp only;omega),rfl,rfl,rfl,?_⟩
    (conv=>whnf);repeat(refine⟨Zz_,?_⟩;(try simp(disch:=omega)only[Zz1]);conv=>whnf)
    intro a2 E;refine⟨by rw[E.size,B.size],_,E.get,?_⟩;rw[E.ds];clear E B a1
    (conv=>whnf);repeat(refine⟨Zz_,?_⟩;(try simp(disch:=omega)only[Zz1]);conv=>whnf)
    intro a1 B;refine Zf _ B AH ?_
    (conv=>whnf);repeat(refine⟨Zz_,?_⟩;(try simp(disch:=omega)only[Zz1]);conv=>whnf)
    refine OO (x:=⟨b,111,sp⟩) (ps:=[_,_]) U_ rfl rfl rfl (.inl rfl) λ lo=>?_
    (conv=>whnf);repeat(refine⟨Zz_,?_⟩;(try simp(disch:=omega)only[Zz1]);conv=>whnf)
    intro a2 E;refine⟨by rw[E.size,B.size],_,E.get,?_⟩;rw[E.ds];clear E B a1
    (conv=>whnf);repeat(refine⟨Zz_,?_⟩;(try simp(disch:=omega)only[Zz1]);conv=>whnf)
    exact M _
   ·(conv=>whnf);repeat(refine⟨Zz_,?_⟩;(try simp(disch:=omega)only[Zz1]);conv=>whnf)
    intro a2 E;refine⟨by rw[E.size,B.size],_,E.get,?_⟩;rw[E.ds];clear E B a1
    (conv=>whnf);repeat(refine⟨Zz_,?_⟩;(try simp(disch:=omega)only[Zz1]);conv=>whnf)
    intro a1 B;refine Zf _ B AI ?_
    (conv=>whnf);repeat(refine⟨Zz_,?_⟩;(try simp(disch:=omega)only[Zz1]);conv=>whnf)
    refine Mz (x:=⟨b,111,sp⟩) (es:=#[⟨.cell ⟨b,0,none⟩,false,false⟩]) (λ z=>if z.st % 8=0/\0<z.st / 8 then .unl else .fin) (λ st sm=>K1) K1 rfl (λ z hz=>?_) λ I p3 k1 k3 k4=>?_
    .obtain⟨P,S,T,V⟩:=Jj hz rfl;obtain⟨l2,w2,s2,n2,f2⟩:=z;simp only at P S T V;split
     .exact⟨.stay,rfl,rfl⟩
     .exact⟨.leave O1,rfl,rfl⟩
    ·(conv=>whnf);repeat(refine⟨Zz_,?_⟩;(try simp(disch:=omega)only[Zz1]);conv=>whnf)
     intro a2 E;refine⟨by rw[E.size,B.size],_,E.get,?_⟩;rw[E.ds];clear E B a1
     conv=>whnf
     have X:=k4;obtain⟨j1,j2,j3,j4,j5,-⟩:=X;simp only at h1 W k1;refine⟨rfl,(_,p3,I.st),T1,⟨rfl,k3,by(show I.st<511;unfold LZ.st;omega),?_⟩,?_⟩
     .show GV (if I.st % 8=0/\0<I.st / 8 then .unl else .fin) I.st;split
      .rename_i h;exact .inl ⟨rfl,h⟩
      .rename_i h;exact .inr ⟨rfl,O1⟩
     .have hne:u≠p2:=λ e=>h5 (W e).symm;show PB 20-p3<PB 20-u;omega
  .apply Jb<;>intro F
   .have hc':=beq_eq_false_iff_ne.1 F
    (conv=>whnf);repeat(refine⟨Zz_,?_⟩;(try simp(disch:=omega)only[Zz1]);conv=>whnf)
    refine Qe (λ F=>?_) (λ F=>absurd (bne_eq_false_iff_eq.1 F) O1)
    (conv=>whnf);repeat(refine⟨Zz_,?_⟩;(try simp(disch:=omega)only[Zz1]);conv=>whnf)
    exact M _
   ·(conv=>whnf);repeat(refine⟨Zz_,?_⟩;(try simp(disch:=omega)only[Zz1]);conv=>whnf)
    exact M _
 .have hc4:=beq_eq_false_iff_ne.1 F
  obtain⟨K,rfl⟩:n / 4 % 2=1/\me=.uls:=by
   rcases G with h|h
   .omega
   .exact h
  (conv=>whnf);repeat(refine⟨Zz_,?_⟩;(try simp(disch:=omega)only[Zz1]);conv=>whnf)
  intro a1 B;refine Zf _ B AJ ?_
  (conv=>whnf);repeat(refine⟨Zz_,?_⟩;(try simp(disch:=omega)only[Zz1]);conv=>whnf)
  refine OO (x:=⟨b,111,sp⟩) (ps:=[_,_]) U_ rfl rfl Y (.inr rfl) λ lo=>?_
  (conv=>whnf);repeat(refine⟨Zz_,?_⟩;(try simp(disch:=omega)only[Zz1]);conv=>whnf)
  intro a2 E;refine⟨by rw[E.size,B.size],_,E.get,?_⟩;rw[E.ds];clear E B a1
  (conv=>whnf);repeat(refine⟨Zz_,?_⟩;(try simp(disch:=omega)only[Zz1]);conv=>whnf)
  exact M _
def NN{R:Nat->Bool}(ht:U.tok=⟨0,.wrk bb D,some (.lok ⟨b,111,sp⟩ s (.own R) lo)⟩)(hM:U.M=M₁++M₂)(hD:sp (Q9 R s true) M₁)
  (Y:∀lo,Q (.tuple #[]) { U with M:=M₂,tok:=⟨0,.wrk bb D,some (.lok ⟨b,111,sp⟩ s .fin lo)⟩ }):Qb Zs 91 #[.pb b] Q U:=by
 refine Qb.of (args:=[_]) DO Qd S1 ?_
 (conv=>whnf);repeat(refine⟨Zz_,?_⟩;(try simp(disch:=omega)only[Zz1]);conv=>whnf)
 intro a1 f;refine Zf _ f BI ?_
 (conv=>whnf);repeat(refine⟨Zz_,?_⟩;(try simp(disch:=omega)only[Zz1]);conv=>whnf)
 refine JV (x:=⟨b,111,sp⟩) (es:=#[⟨.cell ⟨b,0,none⟩,false,false⟩]) (λ st sm=>K1) K1 ht λ z p q1 q2 q3 q4=>?_
 (conv=>whnf);repeat(refine⟨Zz_,?_⟩;(try simp(disch:=omega)only[Zz1]);conv=>whnf)
 intro a2 w;refine⟨by rw[w.size,f.size],_,w.get,?_⟩;rw[w.ds];clear w f a1
 (conv=>whnf);repeat(refine⟨Zz_,?_⟩;(try simp(disch:=omega)only[Zz1]);conv=>whnf)
 intro a1 f;refine Zf _ f BJ ?_
 (conv=>whnf);repeat(refine⟨Zz_,?_⟩;(try simp(disch:=omega)only[Zz1]);conv=>whnf)
 refine H0 (x:=⟨b,111,sp⟩) (bs:=[(b,false),(b,false)]) (v:=.pb b) (λ st sm=>K1) Z9 (Wr _ _) rfl ?_
 (conv=>whnf);repeat(refine⟨Zz_,?_⟩;(try simp(disch:=omega)only[Zz1]);conv=>whnf)
 refine L0 (x:=⟨b,111,sp⟩) (M₁:=M₁) (M₂:=M₂) FC rfl rfl rfl hM hD ?_
 (conv=>whnf);repeat(refine⟨Zz_,?_⟩;(try simp(disch:=omega)only[Zz1]);conv=>whnf)
 intro a2 w;refine⟨by rw[w.size,f.size],_,w.get,?_⟩;rw[w.ds];clear w f a1
 (conv=>whnf);repeat(refine⟨Zz_,?_⟩;(try simp(disch:=omega)only[Zz1]);conv=>whnf)
 intro a1 f;refine Zf _ f BK ?_
 (conv=>whnf);repeat(refine⟨Zz_,?_⟩;(try simp(disch:=omega)only[Zz1]);conv=>whnf)
 refine XA (x:=⟨b,111,sp⟩) (m:=.disable) (d':=1) (.inl rfl) VE rfl rfl rfl ?_
 (conv=>whnf);repeat(refine⟨Zz_,?_⟩;(try simp(disch:=omega)only[Zz1]);conv=>whnf)
 intro a2 w;refine⟨by rw[w.size,f.size],_,w.get,?_⟩;rw[w.ds];clear w f a1
 (conv=>whnf);repeat(refine⟨Zz_,?_⟩;(try simp(disch:=omega)only[Zz1]);conv=>whnf)
 intro a1 f;refine Zf _ f C1 ?_
 (conv=>whnf);repeat(refine⟨Zz_,?_⟩;(try simp(disch:=omega)only[Zz1]);conv=>whnf)
 refine YY (x:=⟨b,111,sp⟩) (δ:=-1) Yd rfl rfl rfl rfl λ z4 p4 j1 j2 _=>?_;obtain⟨T,X,V,K,hn,hl⟩:=j2;obtain⟨l4,F,B,E,G⟩:=z4;simp only at T X V K hn hl
 have W:(LZ.st ⟨0,F,B,E,G⟩)<511/\(LZ.st ⟨0,F,B,E,G⟩) % 2=0/\(LZ.st ⟨0,F,B,E,G⟩) / 4 % 2=B/\(LZ.st ⟨0,F,B,E,G⟩) / 2 % 2=F/\(LZ.st ⟨0,F,B,E,G⟩) / 8=E:=by
  unfold LZ.st;simp only;omega
 obtain⟨H,I,N,P,S⟩:=W
 have key:∃me',Tz .rls ⟨l4,F,B,E,G⟩ me' ⟨0,F,B,E,G⟩/\me'.rels=true/\me'.isOwn=false/\(((LZ.st ⟨0,F,B,E,G⟩) / 4 % 2=0/\GV me' (LZ.st ⟨0,F,B,E,G⟩))\/((LZ.st ⟨0,F,B,E,G⟩) / 4 % 2=1/\me'=.uls))/\((LZ.st ⟨0,F,B,E,G⟩)=0->me'=.fin):=by
  have L:B=0\/B=1:=O1
  rcases L with e|e
  .by_cases hx:E=0\/F=1
   .exact⟨.fin,.relf e hx,rfl,rfl,.inl ⟨O1,.inr ⟨rfl,O1⟩⟩,λ _=>rfl⟩
   .exact⟨.unl,.relu e O1 O1,rfl,rfl,.inl ⟨O1,.inl ⟨rfl,O1,O1⟩⟩,λ h=>O1⟩
  .exact⟨.uls,.rels e,rfl,rfl,.inr ⟨O1,rfl⟩,λ h=>O1⟩
 obtain⟨me',Z,k2,k3,k4,k5⟩:=key;refine⟨me',⟨0,F,B,E,G⟩,Z,?_,rfl,k2,k3,?_⟩
 .rw[show((LZ.st ⟨l4,F,B,E,G⟩:Nat):Int)+(-1)=((LZ.st ⟨0,F,B,E,G⟩:Nat):Int) by(unfold LZ.st;simp only;omega)];exact PR O1
 clear Z;generalize LZ.st ⟨0,F,B,E,G⟩=w' at H I N P S k4 k5 ⊢
 (conv=>whnf);repeat(refine⟨Zz_,?_⟩;(try simp(disch:=omega)only[Zz1]);conv=>whnf)
 intro a2 w;refine⟨by rw[w.size,f.size],_,w.get,?_⟩;rw[w.ds];clear w f a1
 (conv=>whnf);repeat(refine⟨Zz_,?_⟩;(try simp(disch:=omega)only[Zz1]);conv=>whnf)
 apply Qe<;>intro hc
 .refine⟨UD.any,(Ri (U:=Qa.lk { U with M:=M₂ } 1 bb D ⟨b,111,sp⟩ s me' (p4,w')) (Q:=λ v U'=>v=.tuple #[]/\∃lo,U'=Qa.lk { U with M:=M₂ } 1 bb D ⟨b,111,sp⟩ s .fin lo) rfl H I j1 k4 λ lo=>⟨rfl,lo,rfl⟩).mono ?_⟩;rintro v U'⟨rfl,lo',rfl⟩-
  (conv=>whnf);repeat(refine⟨Zz_,?_⟩;(try simp(disch:=omega)only[Zz1]);conv=>whnf)
  intro a1 f;refine Zf _ f SH ?_
  (conv=>whnf);repeat(refine⟨Zz_,?_⟩;(try simp(disch:=omega)only[Zz1]);conv=>whnf)
  refine XA (x:=⟨b,111,sp⟩) (m:=.enable) (d':=0) (.inr rfl) J8 rfl rfl rfl ?_
  (conv=>whnf);repeat(refine⟨Zz_,?_⟩;(try simp(disch:=omega)only[Zz1]);conv=>whnf)
  intro a2 w;refine⟨by rw[w.size,f.size],_,w.get,?_⟩;rw[w.ds];clear w f a1
  (conv=>whnf);repeat(refine⟨Zz_,?_⟩;(try simp(disch:=omega)only[Zz1]);conv=>whnf)
  exact Y _
 .have hc0:w'=0:=by have:=bne_eq_false_iff_eq.1 hc;omega
  obtain rfl:=k5 hc0
  (conv=>whnf);repeat(refine⟨Zz_,?_⟩;(try simp(disch:=omega)only[Zz1]);conv=>whnf)
  intro a1 f;refine Zf _ f SH ?_
  (conv=>whnf);repeat(refine⟨Zz_,?_⟩;(try simp(disch:=omega)only[Zz1]);conv=>whnf)
  refine XA (x:=⟨b,111,sp⟩) (m:=.enable) (d':=0) (.inr rfl) J8 rfl rfl rfl ?_
  (conv=>whnf);repeat(refine⟨Zz_,?_⟩;(try simp(disch:=omega)only[Zz1]);conv=>whnf)
  intro a2 w;refine⟨by rw[w.size,f.size],_,w.get,?_⟩;rw[w.ds];clear w f a1
  (conv=>whnf);repeat(refine⟨Zz_,?_⟩;(try simp(disch:=omega)only[Zz1]);conv=>whnf)
  exact Y _
def RK{R:Nat->Bool}(z:U.tok=⟨0,.wrk bb D,some (.lok ⟨b,111,sp⟩ s (.own R) lo)⟩)(f:U.M=M₁++M₂)(e:sp (Q9 R s true) M₁)
  (w:∀lo,j { U with M:=M₂,tok:=⟨0,.wrk bb D,some (.lok ⟨b,111,sp⟩ s .fin lo)⟩ }):X6 Zs 66 #[.pb b] j U:=by
 refine X6.of (args:=[_]) Lo Qd S1 ?_;refine⟨DO.any,(NN (Q:=λ v U'=>v=.tuple #[]/\j U') z f e λ lo=>⟨rfl,w lo⟩).mono ?_⟩;rintro v U'⟨rfl,B⟩-
 conv=>whnf
 exact⟨rfl,B⟩
def Tq(f:GG P t b) :
  Jo P t (Extern.Atomic.casT (.int .u64) #[.pb b,.int .u64 d,.int .u64 h] >>= λ v=>pure (Next.value v)) (.int .u64 i) sm es [] =
   .ok (.value (.bool (i==d))) (.int .u64 (if i=d then h else i)) sm (if i=d then(es.push (QA b 0)).push (QD b 0)else es.push (QA b 0)) (if i=d then[(b,true),(b,true),(b,false),(b,false)]else[(b,true),(b,false),(b,false)]):=by
 show Jo P t (Sem.bind (Sem.bind (Extern.Atomic.touchesFrozen ⟨b,0,none⟩) _) _) _ _ _ _=_;rw[KC];refine(f _ _ _ _).trans ?_;by_cases e:i=d
 .subst e;simp[Sem.bind,Bind.bind,Pure.pure,Extern.Atomic.read,load,store,Jo,ZQ,XE,QA,QD,Array.getLit]
 .have e':(i==d)=false:=by simpa using e
  simp[Sem.bind,Bind.bind,Pure.pure,Extern.Atomic.read,load,store,Jo,ZQ,XE,QA,QD,Array.getLit,e,e']
def CQ:
  Jo P t (Extern.Atomic.update (Op.intArith .add) .u64 true #[.pb b,.int .u64 d] >>= λ v=>pure (Next.value v)) (.int .u64 h) sm es [] =
   .ok (.value (.int .u64 (IntKind.u64.wrap (h+d)))) (.int .u64 (IntKind.u64.wrap (h+d))) sm ((es.push (QA b 0)).push (QD b 0)) [(b,true),(b,true)]:=rfl
def EC:
  Jo P t (Extern.Atomic.loadT (.int .u64) #[.pb b] >>= λ v=>pure (Next.value v)) (.int .u64 d) sm es []=.ok (.value (.int .u64 d)) (.int .u64 d) sm (es.push (QA b 0)) [(b,true)]:=rfl
section
variable{mu:Option ZL}
def E3(G:Jl P g λ _=>do mark .disable;pure (Value.tuple #[]))(B:o.op=.call { callee:=.value (.func g),args:=xs,argTypes:=w })
  (M:U.tok=⟨s,.par b ds pend k₀,mu⟩) (k:K (.tuple #[]) (U.at (s+1) (.par b ds pend k₀))):ZD (Zj P t N) fn o f K U:=by
 intro ops i rest Q a V F I L S H Stop m E T cs e z;refine .syn (QC.dis (bs:=[]) rfl M (λ st sm=>?_) Z0 (H _ _ k Stop m E T cs e z));rw[<- H1 (P:=P) (fn:=fn) (g:=g) (m:=.disable) S1];refine Ww I S e ?_;rw[F,<- Jy _ V,L,G.ev B rfl];exact Od
end
section
variable{mu:Option ZL}
def E4(G:Jl P g λ _=>do mark .enable;pure (Value.tuple #[]))(B:o.op=.call { callee:=.value (.func g),args:=xs,argTypes:=w })
  (M:U.tok=⟨s+1,.par b ds pend k₀,mu⟩) (k:K (.tuple #[]) (U.at s (.par b ds pend k₀))):ZD (Zj P t N) fn o f K U:=by
 intro ops i rest Q a V F I L S H Stop m E T cs e z;refine .syn (QC.ena (bs:=[]) rfl M (λ st sm=>?_) Z0 (H _ _ k Stop m E T cs e z));rw[<- H1 (P:=P) (fn:=fn) (g:=g) (m:=.enable) S1];refine Ww I S e ?_;rw[F,<- Jy _ V,L,G.ev B rfl];exact Od
end
def VX{v:Value}(G:U.tok.ph.blk=some b)(B:∀st sm,Jo P t (execOp (Zc f) o) st sm #[] []=.ok (.value v) st sm #[] bs)(w:Js b bs)
  (k:K v U):ZD (Zj P t N) fn o f K U:=by
 intro ops i rest Q a T F I L M H Stop m E S cs e z;refine .syn (QC.quiet rfl G (λ st sm=>?_) w (H _ _ k Stop m E S cs e z));rw[<- Wr P fn];refine Ww I M e ?_;rw[F,<- Jy _ T,L];exact B st sm
section
variable{mu:Option ZL}
def DR(wr:Bool)(H:Jl P g (Extern.Race.marked (λ a=>bif wr then .write a else .read a)))(B:o.op=.call { callee:=.value (.func g),args:=#[p],argTypes:=w })
  (F:Zc f p=.pointer (some ⟨b,1,none⟩)) (T:U.tok=⟨1,.par b ds pend k₀,mu⟩) (k:K (.tuple #[]) U):ZD (Zj P t N) fn o f K U:=by
 intro ops i rest Q a X G M S V I Stop m E W cs e z;refine .syn (QC.said (bs:=[]) (wr:=wr) rfl T (λ st sm=>?_) Z0 (I _ _ k Stop m E W cs e z));rw[<- H1 (P:=P) (fn:=fn) (g:=g) (m:=bif wr then .write ⟨b,1,none⟩else .read ⟨b,1,none⟩) (by cases wr <;> simp)];refine Ww M V e ?_;have L:(#[p]:Array Operand).map (Zc f)=#[.pointer (some ⟨b,1,none⟩)]:=by simp[F]
 rw[G,<- Jy _ X,S,H.ev B rfl,L];rfl
end
section
variable{mu:Option ZL}
def L5{E:Array TypeId}(V:Jl P g (Extern.Atomic.update (Op.intArith .add) .u64 true))(G:o.op=.call { callee:=.value (.func g),args:=#[e,p],argTypes:=E })
  (L:Zc f e=.pb b) (M:Zc f p=.int .u64 4294967296) (ht:U.tok=⟨1,.par b ds false .run,mu⟩) (S:ds.length<N)
  (B:∀c:Nat,c<=ds.length->IntKind.u64.wrap (((c*4294967296+0:Nat):Int)+4294967296)=(((c+1)*4294967296+0:Nat):Int))
  (k:∀c,c<=ds.length->K (Jh (c+1) 0) (U.at 1 (.par b ds true .run))):ZD (Zj P t N) fn o f K U:=by
 intro ops i rest Q a o' T Y Z hw W Stop m I kk cs z F;have X:(#[e,p]:Array Operand).map (Zc f)=#[.pb b,.int .u64 4294967296]:=by simp[L,M]
 refine .syn (QC.add rfl ht S λ c H=>⟨_,[(b,true),(b,true)],?_,Z9,W _ _ (k c H) Stop m I kk cs z F⟩);rw[<- PY (P:=P) (fn:=fn) (g:=g)];refine Ww Y hw z ?_;rw[T,<- Jy _ o',Z,V.ev G rfl,X];unfold Jh;rw[CQ,B c H]
end
def Oi:seen P fn (#[⟨.mark (.extern g),false,true⟩].push (QA b 0))=#[QA b 0]:=Gt (P:=P) (fn:=fn) (g:=g) [QA b 0] λ e f=>Kk (m:=b) e (by simp at f;subst f;simp)
section
variable{mu:Option ZL}
def L4(M:Jl P g (Extern.Atomic.loadT (.int .u64)))(B:o.op=.call { callee:=.value (.func g),args:=#[p],argTypes:=z })
  (H:Zc f p=.pb b) (X:U.tok=⟨1,.par b ds false k₀,mu⟩) (W:X9 ds u k₀)
  (k:∀c,c<=u->K (Jh c 0) (U.at 1 (.par b ds false (.seen c)))\/(c=0/\K (Jh c 0) (U.at 1 (.par b ds false .up)))):ZD (Zj P t N) fn o f K U:=by
 intro ops i rest Q a Z I T V Y F Stop m E G cs e w;have S:(#[p]:Array Operand).map (Zc f)=#[.pb b]:=by simp[H]
 refine .syn (QC.look rfl X W λ c L=>⟨_,[(b,true)],Xz,.inl ⟨?_,(k c L).imp (λ x=>F _ _ x Stop m E G cs e w) λ x=>⟨x.1,F _ _ x.2 Stop m E G cs e w⟩⟩⟩);rw[<- Oi (P:=P) (fn:=fn) (g:=g)];refine Ww T Y e ?_;rw[I,<- Jy _ Z,V,M.ev B rfl,S];exact EC
end
section
variable{mu:Option ZL}
def L7{S:Array TypeId}(he:Jl P g (Extern.Atomic.casT (.int .u64)))(Z:GG P t b)(T:o.op=.call { callee:=.value (.func g),args:=#[p,G,H],argTypes:=S })
  (h1:Zc f p=.pb b) (h2:Zc f G=Jh s 0) (h3:Zc f H=Jh s 1) (I:1<=s) (ht:U.tok=⟨1,.par b ds false k₀,mu⟩) (hs:X9 ds u k₀)
  (V:K (.bool true) (U.at 1 (.par b ds false .wait))) (no:∀c,c<=u->c≠s->K (.bool false) (U.at 1 (.par b ds false (.seen c)))):ZD (Zj P t N) fn o f K U:=by
 intro ops i rest Q a o' ha Y hr hw X Stop m W kk cs E L;have hm:(#[p,G,H]:Array Operand).map (Zc f)=#[.pb b,Jh s 0,Jh s 1]:=by simp[h1,h2,h3]
 refine .syn (QC.look rfl ht hs λ c hc=>?_)
 have M:∀sm,Jo P t (execOp a.eval o') (Jh c 0) sm #[] []=Jo P t (Extern.Atomic.casT (.int .u64) #[.pb b,Jh s 0,Jh s 1] >>= λ v=>pure (Next.value v)) (Jh c 0) sm #[⟨.mark (.extern g),false,true⟩] []:=λ sm=>by
  rw[ha,<- Jy _ o',hr,he.ev T rfl,hm]
 by_cases e:c=s
 .subst e;refine⟨_,[(b,true),(b,true),(b,false),(b,false)],(K8 (x:=true) (y:=true) (z:=false) (w:=false)).1,.inr ⟨I,?_,X _ _ V Stop m W kk cs E L⟩⟩;rw[<- PY (P:=P) (fn:=fn) (g:=g)];refine Ww Y hw E ?_;rw[M];refine(Tq Z).trans ?_;simp only[if_true,beq_self_eq_true];rfl
 .have e':¬(((c*4294967296+0:Nat):Int)=((s*4294967296+0:Nat):Int)):=O1
  have e2:(((c*4294967296+0:Nat):Int)==((s*4294967296+0:Nat):Int))=false:=by simpa using e'
  refine⟨_,[(b,true),(b,false),(b,false)],(K8 (x:=true) (y:=false) (z:=false) (w:=false)).2,.inl ⟨?_,.inl (X _ _ (no c hc e) Stop m W kk cs E L)⟩⟩;rw[<- Oi (P:=P) (fn:=fn) (g:=g)];refine Ww Y hw E ?_;rw[M];refine(Tq Z).trans ?_;simp only[e',if_false,e2];rfl
end
section
variable{mu:Option ZL}
def L6{B:Array TypeId}(G:Jl P g Extern.Sync.semacquire)(z:o.op=.call { callee:=.value (.func g),args:=(p::ps).toArray,argTypes:=B })
  (V:Zc f p=.pointer (some ⟨b,1,none⟩)) (X:U.tok=⟨1,.par b ds false .wait,mu⟩) (k:K (.tuple #[]) (U.at 1 (.par b ds false .up))):ZD (Zj P t N) fn o f K U:=by
 intro ops i rest Q a S F I L M W Stop m T Y cs e E;have H:((p::ps).toArray).map (Zc f)=((.pointer (some ⟨b,1,none⟩))::ps.map (Zc f)).toArray:=by simp[V]
 refine .syn (QC.sema rfl rfl X (λ st=>⟨[(b,true)],Xz,En I M e ?_⟩) ⟨_,[(b,true),(b,true)],Z9,?_,W _ _ k Stop m T Y cs e E⟩)
 .rw[F,<- Jy _ S,L,G.ev z rfl,H];exact To
 .rw[<- PZ (P:=P) (fn:=fn) (g:=g)];refine Ww I M e ?_;rw[F,<- Jy _ S,L,G.ev z rfl,H];exact Tp
end
section
variable{mu:Option ZL}
def FD(H:Jl P g (Extern.Atomic.loadT (.int .u64)))(B:o.op=.call { callee:=.value (.func g),args:=#[p],argTypes:=w })
  (F:Zc f p=.pb b) (T:U.tok=⟨1,.par b ds false .up,mu⟩) (k:K (Jh 0 0) U):ZD (Zj P t N) fn o f K U:=by
 intro ops i rest Q a X G M S V I Stop m E W cs e z;have L:(#[p]:Array Operand).map (Zc f)=#[.pb b]:=by simp[F]
 refine .syn (QC.look2 (bs:=[(b,true)]) rfl T Xz ?_ (I _ _ k Stop m E W cs e z));rw[<- Oi (P:=P) (fn:=fn) (g:=g)];refine Ww M V e ?_;rw[G,<- Jy _ X,S,H.ev B rfl,L];exact EC
end
def Uo(L:Jl P g (Extern.Race.marked .acquire))(F:o.op=.call { callee:=.value (.func g),args:=#[p],argTypes:=z })
  (B:Zc f p=.pb b) (X:U.tok=⟨0,.par b ds false .up,some (.par y v)⟩)
  (k:∀w M,XL ds w->y.sp v M->K (.tuple #[]) { U with M:=(U.M++w.flatten)++M,tok:=⟨0,.out,none⟩ }):ZD (Zj P t N) fn o f K U:=by
 intro ops i rest Q a o' I V W Y S Stop m G Z cs e E;have T:(#[p]:Array Operand).map (Zc f)=#[.pb b]:=by simp[B]
 refine .syn (QC.acqM (bs:=[]) rfl X Z0 (λ st sm=>?_) λ w M B H=>S _ _ (k w M B H) Stop m G Z cs e E);rw[<- H1 (P:=P) (fn:=fn) (g:=g) (m:=.acquire ⟨b,0,none⟩) S1];refine Ww V Y e ?_;rw[I,<- Jy _ o',W,L.ev F rfl,T];rfl
def EI(S:Sys P T)(fn:FuncId)(d:Deferred)(Q:Qa T->Prop)(U:Qa T):Prop:=
 ∀(Stop:QK T)(m:Bool)(b:Frame)(tmps:Array Value)(todo:List Item)(ds:List Deferred)(c:Frame)(cs:List Frame),b.fn=fn->(∀U',Q U'->J S Stop m (Rf { fr b ⟨tmps,ds⟩ todo with mode:=.returning } (c::cs)) U') ->
  J S Stop m (Rf { fr b ⟨tmps,d::ds⟩ todo with mode:=.returning } (c::cs)) U
def Ox(S:Sys P T)(fn:FuncId)(rl:List RV)(Q:Value->Qa T->Prop)(f:Fm)(l:List Deferred):Qa T->Prop:=
 List.rec (motive:=λ _=>Qa T->Prop) (λ U=>Xv f Q rl [] U) (λ d r _ U=>r=[]/\EI S fn d (λ U'=>Xv f Q rl [] U') U) l
def Qb.ofA(k:Zg P g N cc rl)(X:P.follows .mixedOrders=true)(hn:args.length<=N){U:Qa T}
  (h:JM S g none cc (λ f ds U=>Ox S g rl c f ds U) (λ _ _ _ _=>False) (λ f ds U=>Ox S g rl c f ds U) (fm args) [] U):Qb S g args.toArray c U:=by
 obtain⟨fd,mu,dets,L,M,V,rfl,Z,-⟩:=k.ok;intro Stop m w cs Y
 let b:Frame:={ (default:Frame)with fn:=g,kind:=.normal }
 have E:Rf (Frame.enter P g args.toArray .normal) (w::cs)=R b { tmps:=args.toArray++Array.replicate (fd.ntmps-args.toArray.size) undef,defers:=[] } [.code (fd.body.getD .skip)] (w::cs):=by
  simp only[Rf,R,Frame.enter,fr,L,b,Option.bind_some];rw[M];rfl
 rw[E]
 have I:FR fd.ntmps { tmps:=args.toArray++Array.replicate (fd.ntmps-args.toArray.size) undef,defers:=[] } (fm args) []:=by
  refine⟨rfl,S3,λ t=>?_⟩;simp only[fm,Array.getD_eq_getD_getElem?,getD_eq_getElem?_getD,Array.getElem?_append,size_toArray,getElem?_toArray];split
  .rfl
  .rename_i hlt;rw[getElem?_eq_none O1,Array.getElem?_replicate];split <;> rfl
 subst V
 have fin:∀(a':Act)(f':Fm)(z:List Deferred)(U':Qa T),FR fd.ntmps a' f' z->Ox S g rl c f' z U'->∀todo,J S Stop m (Rf { fr b a' todo with mode:=.returning } (w::cs)) U':=by
  intro a' f' z U' B F todo
  have ret:∀G,Xv f' c rl [] G->J S Stop m (Rf { fr b ⟨a'.tmps,[]⟩ todo with mode:=.returning } (w::cs)) G:=λ G hx=>
   X7.step L (.inl rfl) Y [] todo G (Ge Z [] G hx a'.tmps B.get)
  obtain⟨tm,K⟩:=a';have H:K=z:=B.ds;subst H;cases K with
  |nil=>exact ret U' F
  |cons d r=>
   obtain⟨rfl,W⟩:=F;exact W Stop m b tm todo [] w cs rfl ret
 refine J.body (fn:=g) ⟨rfl,rfl,by simp[b],S1⟩ (Hh X _ I h) λ e a' U' q=>?_;obtain⟨f',z,B,F⟩:=q;cases e with
 |normal=>exact⟨.inl rfl,fin a' f' z U' B F⟩
 |ret=>exact⟨.inr rfl,fin a' f' z U' B F⟩
 |exit id=>exact F.elim
section
variable{d:Nat}
def D_(G:Jl P g λ _=>do mark .enable;pure (Value.tuple #[]))(K:U.tok=⟨d+1,.par b ds pend k₀,a⟩)(k:j (U.at d (.par b ds pend k₀))) :
  EI (Zj P t N) fn { target:=.fn (.func g) #[],args:=l } j U:=by
 intro Stop m L tmps todo M c cs f H;obtain⟨fd,w,z,B,E⟩:=G.fd;obtain⟨I,F⟩:=by simpa only[Prod.mk.injEq]using z
 refine .syn (QC.ena (bs:=[]) rfl K (λ st sm=>?_) Z0 (H _ k));rw[<- H1 (P:=P) (fn:=fn) (g:=g) (m:=.enable) S1]
 have e:Jo P t (invoke (.fn (.func g) #[]) l) st sm #[] []=.ok (.value (.tuple #[])) st sm (#[⟨.mark (.extern g),false,true⟩].push (Wj .enable)) []:=by
  simp only[invoke,callFunc,program];simp only[Bind.bind,Pure.pure,Sem.bind,Jo,w,I,F,B,E,mark,Bool.false_eq_true,if_false,if_true,Array.empty_append,Array.append_empty];rfl
 unfold Q5;simp only[Rf,fr,Gz,e,HX,Wq,f]
end
def Bl:Jl Tryz.prog 126 (Extern.Atomic.update (Op.intArith .add) .u64 true):=⟨_,Tryz.func126,K1,K1,K1⟩
def SQ:Jl Tryz.prog 127 (Extern.Atomic.loadT (.int .u64)):=⟨_,Tryz.func127,K1,K1,K1⟩
def Bm:Jl Tryz.prog 129 (Extern.Atomic.casT (.int .u64)):=⟨_,Tryz.func129,K1,K1,K1⟩
def Cq:Jl Tryz.prog 100 (Extern.Race.marked (λ a=>bif false then .write a else .read a)):=⟨_,Tryz.func100,K1,K1,K1⟩
def Bn:Jl Tryz.prog 108 (Extern.Race.marked (λ a=>bif true then .write a else .read a)):=⟨_,Tryz.func108,K1,K1,K1⟩
def Cr:Jl Tryz.prog 109 Extern.Sync.semacquire:=⟨_,Tryz.func109,K1,K1,K1⟩
def BQ:Extern.find Tryz.f95=some (λ _=>pure (.bool false)):=K1
def BR:Extern.findNext Tryz.f95=none:=K1
def Lf(b:Nat):GG Tryz.prog 118 b:=λ k st sm es=>K1
def qJ(h:b<=20):IntKind.u64.wrap (((b*4294967296+0:Nat):Int)+4294967296)=(((b+1)*4294967296+0:Nat):Int):=by
 have key:(range 21).all (λ b=>decide (IntKind.u64.wrap (((b*4294967296+0:Nat):Int)+4294967296)=(((b+1)*4294967296+0:Nat):Int)))=true:=K1
 exact of_decide_eq_true (all_eq_true.1 key b (mem_range.2 O1))
def BM(z:ds.length<20)(B:U.tok=⟨1,.par b ds false .run,a⟩)(k:∀c,c<=ds.length->Q (Jh (c+1) 0) (U.at 1 (.par b ds true .run))):Qb Zs 99 #[.pb b,.int .u64 4294967296] Q U:=by
 refine Qb.of (args:=[_,_]) DP Qd S1 ?_
 ((conv=>whnf);repeat(refine⟨Zz_,?_⟩;conv=>whnf))
 intro a1 e;refine Zf _ e C2 ?_
 ((conv=>whnf);repeat(refine⟨Zz_,?_⟩;conv=>whnf))
 refine L5 Bl rfl rfl rfl B z (λ c w=>qJ O1) λ c w=>?_
 ((conv=>whnf);repeat(refine⟨Zz_,?_⟩;conv=>whnf))
 intro a2 f;refine⟨by rw[f.size,e.size],_,f.get,?_⟩;rw[f.ds]
 ((conv=>whnf);repeat(refine⟨Zz_,?_⟩;conv=>whnf))
 exact k c w
def AU(B:U.tok=⟨1,.par b ds false k₀,a⟩)(z:X9 ds u k₀)(k:∀c,c<=u->Q (Jh c 0) (U.at 1 (.par b ds false (.seen c)))\/(c=0/\Q (Jh c 0) (U.at 1 (.par b ds false .up)))):Qb Zs 101 #[.pb b] Q U:=by
 refine Qb.of (args:=[_]) Vw Qd S1 ?_
 ((conv=>whnf);repeat(refine⟨Zz_,?_⟩;conv=>whnf))
 intro a1 e;refine Zf _ e Sn ?_
 ((conv=>whnf);repeat(refine⟨Zz_,?_⟩;conv=>whnf))
 refine L4 SQ rfl rfl B z λ c w=>(k c w).imp (λ q=>?_) λ q=>⟨q.1,?_⟩
 all_goals((conv=>whnf);repeat(refine⟨Zz_,?_⟩;conv=>whnf))
 all_goals intro a2 f
 all_goals refine⟨by rw[f.size,e.size],_,f.get,?_⟩
 all_goals rw[f.ds]
 all_goals((conv=>whnf);repeat(refine⟨Zz_,?_⟩;conv=>whnf))
 .exact q
 .exact q.2
section
variable{mu:Option ZL}
def RW(w:U.tok=⟨1,.par b ds false .up,mu⟩)(k:Q (Jh 0 0) U):Qb Zs 101 #[.pb b] Q U:=by
 refine Qb.of (args:=[_]) Vw Qd S1 ?_
 ((conv=>whnf);repeat(refine⟨Zz_,?_⟩;conv=>whnf))
 intro a1 e;refine Zf _ e Sn ?_
 ((conv=>whnf);repeat(refine⟨Zz_,?_⟩;conv=>whnf))
 refine FD SQ rfl rfl w ?_
 ((conv=>whnf);repeat(refine⟨Zz_,?_⟩;conv=>whnf))
 intro a2 f;refine⟨by rw[f.size,e.size],_,f.get,?_⟩;rw[f.ds]
 ((conv=>whnf);repeat(refine⟨Zz_,?_⟩;conv=>whnf))
 exact k
end
def BS(F:1<=N)(H:U.tok=⟨1,.par b ds false k₀,a⟩)(G:X9 ds u k₀)(z:Q (.bool true) (U.at 1 (.par b ds false .wait)))(no:∀c,c<=u->c≠N->Q (.bool false) (U.at 1 (.par b ds false (.seen c)))):Qb Zs 107 #[.pb b,Jh N 0,Jh N 1] Q U:=by
 refine Qb.of (args:=[_,_,_]) Uj Qd S1 ?_
 ((conv=>whnf);repeat(refine⟨Zz_,?_⟩;conv=>whnf))
 intro a1 f;refine Zf _ f AD ?_
 ((conv=>whnf);repeat(refine⟨Zz_,?_⟩;conv=>whnf))
 refine L7 Bm (Lf b) rfl rfl rfl rfl F H G ?_ λ c B E=>?_
 all_goals((conv=>whnf);repeat(refine⟨Zz_,?_⟩;conv=>whnf))
 all_goals intro a2 w
 all_goals refine⟨by rw[w.size,f.size],_,w.get,?_⟩
 all_goals rw[w.ds]
 all_goals((conv=>whnf);repeat(refine⟨Zz_,?_⟩;conv=>whnf))
 .exact z
 .exact no c B E
structure Gw(n:Nat):Prop where
 b:IntKind.wrap .u64 ((BitVec.ofInt (IntKind.bits .u64) ((n*4294967296+0:Nat):Int)&&&BitVec.ofInt (IntKind.bits .u64) 2147483648).toNat:Int)=0
 m:IntKind.wrap .u64 ((BitVec.ofInt (IntKind.bits .u64) ((n*4294967296+0:Nat):Int)&&&BitVec.ofInt (IntKind.bits .u64) 2147483647).toNat:Int)=0
 d:Int.fdiv ((n*4294967296+0:Nat):Int) (2^(min ((32:Int).toNat) (IntKind.bits .u64)))=(n:Int)
 i:IntKind.wrap .i32 (n:Int)=(n:Int)
 p:IntKind.wrap .u64 (((n*4294967296+0:Nat):Int)+1)=((n*4294967296+1:Nat):Int)
def Gw.chk(n:Nat):Bool:=decide (IntKind.wrap .u64 ((BitVec.ofInt (IntKind.bits .u64) ((n*4294967296+0:Nat):Int)&&&BitVec.ofInt (IntKind.bits .u64) 2147483648).toNat:Int)=0)&&decide (IntKind.wrap .u64 ((BitVec.ofInt (IntKind.bits .u64) ((n*4294967296+0:Nat):Int)&&&BitVec.ofInt (IntKind.bits .u64) 2147483647).toNat:Int)=0)&&decide (Int.fdiv ((n*4294967296+0:Nat):Int) (2^(min ((32:Int).toNat) (IntKind.bits .u64)))=(n:Int))&&decide (IntKind.wrap .i32 (n:Int)=(n:Int))&&decide (IntKind.wrap .u64 (((n*4294967296+0:Nat):Int)+1)=((n*4294967296+1:Nat):Int))
def Gw.of(h:n<=21):Gw n:=by
 have key:(range 22).all Gw.chk=true:=K1
 have:=all_eq_true.1 key n (mem_range.2 O1);simp only[Gw.chk,Bool.and_eq_true,decide_eq_true_eq]at this;obtain⟨⟨⟨⟨e,f⟩,w⟩,z⟩,B⟩:=this;exact⟨e,f,w,z,B⟩
def QO(h:n<=21):IntKind.wrap .u64 ((BitVec.ofInt (IntKind.bits .u64) ((n*4294967296+0:Nat):Int)&&&BitVec.ofInt (IntKind.bits .u64) 2147483648).toNat:Int)=0:=(Gw.of h).b
def QR(h:n<=21):IntKind.wrap .u64 ((BitVec.ofInt (IntKind.bits .u64) ((n*4294967296+0:Nat):Int)&&&BitVec.ofInt (IntKind.bits .u64) 2147483647).toNat:Int)=0:=(Gw.of h).m
def QP(h:n<=21):Int.fdiv ((n*4294967296+0:Nat):Int) (2^(min ((32:Int).toNat) (IntKind.bits .u64)))=(n:Int):=(Gw.of h).d
def QQ(h:n<=21):IntKind.wrap .i32 (n:Int)=(n:Int):=(Gw.of h).i
def W7(h:n<=21):IntKind.wrap .u64 (((n*4294967296+0:Nat):Int)+1)=((n*4294967296+1:Nat):Int):=(Gw.of h).p
def QS:IntKind.wrap .u32 0=0:=K1
def Zz2:=And.intro @QO (And.intro @QR (And.intro @QP (And.intro @QQ (And.intro @QS @W7))))
def qK:IntKind.u64.wrap (IntKind.u64.wrap 1*2^min (Int.toNat 32) IntKind.u64.bits)=4294967296:=K1
def Uh(H:ds.length<20)(K:U.tok=⟨0,.par b ds false .run,a⟩)(E:Q (.tuple #[]) (U.at 0 (.par b ds true .run))):Qb Zs 69 #[.pb b,.int .i64 1] Q U:=by
 refine Qb.ofA (args:=[_,_]) Lp Qd S1 ?_
 ((conv=>whnf);repeat(refine⟨Zz_,?_⟩;conv=>whnf))
 intro a1 e;refine Zf _ e BU ?_
 ((conv=>whnf);repeat(refine⟨Zz_,?_⟩;conv=>whnf))
 refine E3 VE rfl K ?_
 ((conv=>whnf);repeat(refine⟨Zz_,?_⟩;conv=>whnf))
 intro a2 w;refine⟨by rw[w.size,e.size],_,w.get,?_⟩;rw[w.ds];clear w e a1
 ((conv=>whnf);repeat(refine⟨Zz_,?_⟩;conv=>whnf))
 refine E6 (v:=.bool false) Tryz.func95 rfl BR BQ rfl ?_;refine⟨D1,?_⟩;simp only[qK];refine⟨DP.any,(BM (U:=U.at 1 (.par b ds false .run)) (Q:=λ v U'=>∃c,c<=ds.length/\v=Jh (c+1) 0/\U'=U.at 1 (.par b ds true .run)) H rfl λ c B=>⟨c,B,rfl,rfl⟩).mono ?_⟩;rintro v U'⟨c,B,rfl,rfl⟩-
 ((conv=>whnf);repeat(refine⟨Zz_,?_⟩;(try simp(disch:=omega)only[Zz2]);conv=>whnf))
 obtain rfl|I:c=0\/c≠0:=O1
 case' inl=>
  ((conv=>whnf);repeat(refine⟨Zz_,?_⟩;(try simp(disch:=omega)only[Zz2]);conv=>whnf))
  intro a3 f;refine Zf _ f Ao ?_
  ((conv=>whnf);repeat(refine⟨Zz_,?_⟩;(try simp(disch:=omega)only[Zz2]);conv=>whnf))
  refine VX (b:=b) (bs:=[(b,false),(b,false)]) (v:=.pointer (some ⟨b,1,none⟩)) rfl (λ st sm=>K1) Z9 ?_
  ((conv=>whnf);repeat(refine⟨Zz_,?_⟩;(try simp(disch:=omega)only[Zz2]);conv=>whnf))
  refine DR false Cq rfl rfl rfl ?_
  ((conv=>whnf);repeat(refine⟨Zz_,?_⟩;(try simp(disch:=omega)only[Zz2]);conv=>whnf))
  intro a4 z;refine⟨by rw[z.size,f.size],_,z.get,?_⟩;rw[z.ds];clear z f a3 a4
  ((conv=>whnf);repeat(refine⟨Zz_,?_⟩;(try simp(disch:=omega)only[Zz2]);conv=>whnf))
 case' inr=>
  have F:(((c+1:Nat):Int)==IntKind.i32.wrap 1)=false:=by rw[show IntKind.i32.wrap 1=1 by kernel_rfl];simp only[beq_eq_false_iff_ne,ne_eq];omega
  rw[F]
  ((conv=>whnf);repeat(refine⟨Zz_,?_⟩;(try simp(disch:=omega)only[Zz2]);conv=>whnf))
  have G:decide (((c+1:Nat):Int) > 0)=true:=by simp only[decide_eq_true_eq];omega
  rw[G]
  ((conv=>whnf);repeat(refine⟨Zz_,?_⟩;(try simp(disch:=omega)only[Zz2]);conv=>whnf))
 .exact D_ (U:=U.at 1 (.par b ds true .run)) (d:=0) (b:=b) (ds:=ds) (pend:=true) (k₀:=.run) J8 rfl E
 .exact D_ (U:=U.at 1 (.par b ds true .run)) (d:=0) (b:=b) (ds:=ds) (pend:=true) (k₀:=.run) J8 rfl E
def Cm(V:ds.length<=20)(S:U.tok=⟨0,.par b ds false .run,some (.par y v)⟩)(X:∀F M',XL ds F->y.sp v M'->Q (.tuple #[]) ⟨U.I,(U.M++F.flatten)++M',⟨0,.out,none⟩⟩):Qb Zs 70 #[.pb b] Q U:=by
 obtain⟨I,M,tok⟩:=U;simp only at S;subst S;refine Qb.of (args:=[_]) Lq Qd S1 ?_
 ((conv=>whnf);repeat(refine⟨Zz_,?_⟩;conv=>whnf))
 intro a1 e;refine Zf _ e BV ?_
 ((conv=>whnf);repeat(refine⟨Zz_,?_⟩;conv=>whnf))
 refine E3 VE rfl rfl ?_
 ((conv=>whnf);repeat(refine⟨Zz_,?_⟩;conv=>whnf))
 intro a2 w;refine⟨by rw[w.size,e.size],_,w.get,?_⟩;rw[w.ds];clear w e a1;refine⟨PS×Nat,λ _=>[(0,.pb b)],λ k U'=>X9 ds k.2 k.1/\k.2<=20/\U'=⟨I,M,⟨1,.par b ds false k.1,some (.par y v)⟩⟩,λ k=>k.2,(.run,ds.length),T1,⟨.inl ⟨rfl,rfl⟩,V,rfl⟩,?_⟩;rintro⟨k₀,u⟩f U'⟨P,W,rfl⟩;simp only at P W;refine⟨Vw.any,(AU (k₀:=k₀) (U:=⟨I,M,⟨1,.par b ds false k₀,some (.par y v)⟩⟩) (Q:=λ z U'=>(z=Jh 0 0/\U'=⟨I,M,⟨1,.par b ds false .up,some (.par y v)⟩⟩)\/∃c,1<=c/\c<=u/\z=Jh c 0/\U'=⟨I,M,⟨1,.par b ds false (.seen c),some (.par y v)⟩⟩) rfl P λ c L=>?_).mono ?_⟩
 .rcases Nat.eq_zero_or_pos c with rfl|G
  .exact .inr ⟨rfl,.inl ⟨rfl,rfl⟩⟩
  .exact .inl (.inr ⟨c,G,L,rfl,rfl⟩)
 rintro z U' (⟨rfl,rfl⟩|⟨c,G,L,rfl,rfl⟩) -
 case' inl=>
  ((conv=>whnf);repeat(refine⟨Zz_,?_⟩;(try simp(disch:=omega)only[Zz2]);conv=>whnf))
  intro a1 e;refine Zf _ e BA ?_
  ((conv=>whnf);repeat(refine⟨Zz_,?_⟩;(try simp(disch:=omega)only[Zz2]);conv=>whnf))
  refine E4 J8 rfl rfl ?_
  ((conv=>whnf);repeat(refine⟨Zz_,?_⟩;(try simp(disch:=omega)only[Zz2]);conv=>whnf))
  intro a2 w;refine⟨by rw[w.size,e.size],_,w.get,?_⟩;rw[w.ds];clear w e a1
  ((conv=>whnf);repeat(refine⟨Zz_,?_⟩;(try simp(disch:=omega)only[Zz2]);conv=>whnf))
  intro a1 e;refine Zf _ e BB ?_
  ((conv=>whnf);repeat(refine⟨Zz_,?_⟩;(try simp(disch:=omega)only[Zz2]);conv=>whnf))
  refine VX (b:=b) (bs:=[(b,false),(b,false)]) (v:=.pb b) rfl (λ st sm=>K1) Z9 ?_
  ((conv=>whnf);repeat(refine⟨Zz_,?_⟩;(try simp(disch:=omega)only[Zz2]);conv=>whnf))
  refine Uo (b:=b) He rfl rfl rfl λ F M' H K=>?_
  ((conv=>whnf);repeat(refine⟨Zz_,?_⟩;(try simp(disch:=omega)only[Zz2]);conv=>whnf))
  intro a3 B;refine⟨by rw[B.size,e.size],_,B.get,?_⟩;rw[B.ds];clear B e a1
  ((conv=>whnf);repeat(refine⟨Zz_,?_⟩;(try simp(disch:=omega)only[Zz2]);conv=>whnf))
  intro a1 e;refine Zf _ e BC ?_
  ((conv=>whnf);repeat(refine⟨Zz_,?_⟩;(try simp(disch:=omega)only[Zz2]);conv=>whnf))
  intro a2 w;refine⟨by rw[w.size,e.size],_,w.get,?_⟩;rw[w.ds];clear w e a1
  ((conv=>whnf);repeat(refine⟨Zz_,?_⟩;(try simp(disch:=omega)only[Zz2]);conv=>whnf))
 case' inr=>
  ((conv=>whnf);repeat(refine⟨Zz_,?_⟩;(try simp(disch:=omega)only[Zz2]);conv=>whnf))
  have T:(((c:Nat):Int)==0)=false:=by simp only[beq_eq_false_iff_ne,ne_eq];omega
  rw[T];refine⟨rfl,?_⟩;simp(disch:=omega) only[W7];refine⟨Uj.any,(BS (k₀:=.seen c) (u:=c) (U:=⟨I,M,⟨1,.par b ds false (.seen c),some (.par y v)⟩⟩) (Q:=λ z U'=>(z=.bool true/\U'=⟨I,M,⟨1,.par b ds false .wait,some (.par y v)⟩⟩)\/∃E,E<c/\z=.bool false/\U'=⟨I,M,⟨1,.par b ds false (.seen E),some (.par y v)⟩⟩) G rfl (.inr rfl) (.inl ⟨rfl,rfl⟩) λ E H K=>.inr ⟨E,O1,rfl,rfl⟩).mono ?_⟩;rintro z U' (⟨rfl,rfl⟩|⟨E,N,rfl,rfl⟩) -
  case' inl=>
   ((conv=>whnf);repeat(refine⟨Zz_,?_⟩;(try simp(disch:=omega)only[Zz2]);conv=>whnf))
   intro a1 e;refine Zf _ e Ap ?_
   ((conv=>whnf);repeat(refine⟨Zz_,?_⟩;(try simp(disch:=omega)only[Zz2]);conv=>whnf))
   refine VX (b:=b) (bs:=[(b,false),(b,false)]) (v:=.pointer (some ⟨b,1,none⟩)) rfl (λ st sm=>K1) Z9 ?_
   ((conv=>whnf);repeat(refine⟨Zz_,?_⟩;(try simp(disch:=omega)only[Zz2]);conv=>whnf))
   refine DR true Bn rfl rfl rfl ?_
   ((conv=>whnf);repeat(refine⟨Zz_,?_⟩;(try simp(disch:=omega)only[Zz2]);conv=>whnf))
   intro a2 w;refine⟨by rw[w.size,e.size],_,w.get,?_⟩;rw[w.ds];clear w e a1
   ((conv=>whnf);repeat(refine⟨Zz_,?_⟩;(try simp(disch:=omega)only[Zz2]);conv=>whnf))
   intro a1 e;refine Zf _ e Aq ?_
   ((conv=>whnf);repeat(refine⟨Zz_,?_⟩;(try simp(disch:=omega)only[Zz2]);conv=>whnf))
   refine L6 (ps:=[_]) Cr rfl rfl rfl ?_
   ((conv=>whnf);repeat(refine⟨Zz_,?_⟩;(try simp(disch:=omega)only[Zz2]);conv=>whnf))
   intro a2 w;refine⟨by rw[w.size,e.size],_,w.get,?_⟩;rw[w.ds];clear w e a1;refine⟨Vw.any,(RW (b:=b) (ds:=ds) (mu:=some (.par y v)) (U:=⟨I,M,⟨1,.par b ds false .up,some (.par y v)⟩⟩) (Q:=λ z U'=>z=Jh 0 0/\U'=⟨I,M,⟨1,.par b ds false .up,some (.par y v)⟩⟩) rfl ⟨rfl,rfl⟩).mono ?_⟩;rintro z U'⟨rfl,rfl⟩-
   ((conv=>whnf);repeat(refine⟨Zz_,?_⟩;(try simp(disch:=omega)only[Zz2]);conv=>whnf))
   intro a1 e;refine Zf _ e Ar ?_
   ((conv=>whnf);repeat(refine⟨Zz_,?_⟩;(try simp(disch:=omega)only[Zz2]);conv=>whnf))
   refine E4 J8 rfl rfl ?_
   ((conv=>whnf);repeat(refine⟨Zz_,?_⟩;(try simp(disch:=omega)only[Zz2]);conv=>whnf))
   intro a2 w;refine⟨by rw[w.size,e.size],_,w.get,?_⟩;rw[w.ds];clear w e a1
   ((conv=>whnf);repeat(refine⟨Zz_,?_⟩;(try simp(disch:=omega)only[Zz2]);conv=>whnf))
   intro a1 e;refine Zf _ e As ?_
   ((conv=>whnf);repeat(refine⟨Zz_,?_⟩;(try simp(disch:=omega)only[Zz2]);conv=>whnf))
   refine VX (b:=b) (bs:=[(b,false),(b,false)]) (v:=.pb b) rfl (λ st sm=>K1) Z9 ?_
   ((conv=>whnf);repeat(refine⟨Zz_,?_⟩;(try simp(disch:=omega)only[Zz2]);conv=>whnf))
   refine Uo (b:=b) He rfl rfl rfl λ F M' H K=>?_
   ((conv=>whnf);repeat(refine⟨Zz_,?_⟩;(try simp(disch:=omega)only[Zz2]);conv=>whnf))
   intro a3 B;refine⟨by rw[B.size,e.size],_,B.get,?_⟩;rw[B.ds];clear B e a1
   ((conv=>whnf);repeat(refine⟨Zz_,?_⟩;(try simp(disch:=omega)only[Zz2]);conv=>whnf))
  case' inr=>
   ((conv=>whnf);repeat(refine⟨Zz_,?_⟩;(try simp(disch:=omega)only[Zz2]);conv=>whnf))
   refine⟨(.seen E,E),T1,⟨.inr rfl,O1,rfl⟩,?_⟩;exact Nat.lt_of_lt_of_le N L
 all_goals exact X F M' H K
