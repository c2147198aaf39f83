/- Lemmas. No conditions. -/
import Derived.Test.YtajkaognaiglhaaGreatDoorB20
import Derived.Test.YtajkaognaiglhaaGreatDoorB16
set_option linter.all false
set_option maxRecDepth 100000
open List
namespace Go.Proofs
open Go.TM
structure LY where
 ws:Int
 st:Bool
 aw:Bool
 it:Nat
 w:Nat
 me:LP
 lo:Nat×Nat
def LY.slots(b:Nat)(y:LY):List (Nat×Value):=[(0,.pointer (some ⟨b,0,none⟩)),(2,.int .i64 y.ws),(3,.bool y.st),(4,.bool y.aw),(5,.int .i64 (y.it:Nat)),(6,.int .i32 (y.w:Nat))]
def LY.ok(N:Nat)(y:LY):Prop:=y.it<=4/\y.lo.1<=PB N/\y.lo.2=y.w/\(∃z,y.w=z.st/\y.me.fits N z)/\(y.me=.idle/\y.aw=false/\y.st=false\/y.me=.idw/\y.aw=true/\y.st=false\/∃c,y.me=.wok c/\y.aw=true)
def LY.rk(N:Nat)(y:LY):Nat:=match y.me with
 |.wok c=>N-c
 |_=>N+1
def LY.mu(N:Nat)(y:LY):Nat:=y.rk N*((PB N+2)*6)+(PB N-y.lo.1)*6+(5-y.it)
def zb{T:Type}{P:Program}{U:Qa T}{it:Nat}{Q:Value->Qa T->Prop}(h:∀r:Bool,(r=true->it<4)->Q (.bool r) U):Qw P (Extern.Sync.canSpin #[.int .i64 ((it:Nat):Int)]) Q U:=by
 show Qw P (if((it:Nat):Int) ≥ 4 then(pure (Value.bool false):Sem Value)else(do pure (Value.bool ((<- choose (.extern "runtime_canSpin" 2))=1)))) Q U;by_cases f:((it:Nat):Int) ≥ 4
 .rw[if_pos f];exact h false (λ e=>by cases e)
 .rw[if_neg f];have:∀n,Q (.bool n) U:=λ n=>h n λ _=>O1
  rw[Qc];unfold choose;show if _ then _ else _
  split
  .exact this _
  .exact λ t=>this _
def Jj{N:Nat}{me:LP}{z:LZ}{w:Nat}(h:me.fits N z)(e:z.st=w):z.l=w % 2/\z.s=w / 4 % 2/\z.w=w / 2 % 2/\z.n=w / 8:=by
 obtain⟨f,B,E,F,G,-⟩:=h;rw[<- e];unfold LZ.st;omega
def LY.mu_lt{N:Nat}{y e:LY}(B:e.lo.1<=PB N)(z:y.lo.1<=PB N)(f:e.rk N<y.rk N\/(e.rk N=y.rk N/\(y.lo.1<e.lo.1\/(y.lo.1=e.lo.1/\5-e.it<5-y.it)))):e.mu N<y.mu N:=by
 unfold LY.mu;rcases f with f|⟨f,w⟩
 .have:=Nat.mul_le_mul_right ((PB N+2)*6) (Nat.succ_le_of_lt f);rw[Nat.succ_mul]at this;omega
 .rw[f];omega
variable{b bb s:Nat}{D:TM.Spec}{sp:(Nat->Bool)->TM.Spec}{lo:Nat×Nat}{U:Qa Tk}{Q:Value->Qa Tk->Prop}
set_option maxHeartbeats 2000000 in
def Aj(ht:U.tok=⟨1,.wrk bb D,some (.lok ⟨b,111,sp⟩ s .idle lo)⟩)(Z:Ko b bb D sp s (Q (.tuple #[])) U):Qb Zs 122 #[.pointer (some ⟨b,0,none⟩)] Q U:=by
 refine Qb.of (args:=[_]) UT Qd S1 ?_
 conv=>whnf
 intro a0 aa;refine Zf _ aa Ay ?_
 repeat refine⟨rfl,?_⟩
 conv=>whnf
 refine JU (x:=⟨b,111,sp⟩) (es:=#[⟨.cell ⟨b,0,none⟩,false,false⟩]) (λ st sm=>K1) K1 ht λ z p q1 q2 q3 q4=>?_
 conv=>whnf
 intro a' H;refine⟨by rw[H.size,aa.size],_,H.get,?_⟩;rw[H.ds];clear H aa a0;refine⟨LY,LY.slots b,λ y U'=>U'=U.lk 1 bb D ⟨b,111,sp⟩ s y.me y.lo/\y.ok 20,LY.mu 20,⟨0,false,false,0,z.st,.idle,(p,z.st)⟩,T1,⟨rfl,S1,q3,rfl,⟨z,rfl,q4⟩,.inl ⟨rfl,rfl,rfl⟩⟩,?_⟩;clear q1 q2 q3 q4 z p;rintro⟨ws,st,aw,it,w,me,lo⟩f U'⟨rfl,aj,hp,ak,⟨z,hz,ab⟩,ag⟩;simp only at aj hp ak hz ab ag;subst ak;obtain⟨p,w⟩:=lo;simp only at hp hz;have ad:=ab;obtain⟨ao,au,aq,K,hn,-⟩:=ad;have hw:w<512:=by rw[hz];unfold LZ.st;omega
 obtain⟨l,wb,sb,n,fz⟩:=z;simp only at ao au aq K hn;have B:w % 2=l:=by rw[hz];unfold LZ.st;simp only;omega
 have F:w / 4 % 2=sb:=by rw[hz];unfold LZ.st;simp only;omega
 have G:w / 2 % 2=wb:=by rw[hz];unfold LZ.st;simp only;omega
 have E:w / 8=n:=by rw[hz];unfold LZ.st;simp only;omega
 by_cases ac:l=1/\sb=0
 case' pos=>
  obtain⟨rfl,rfl⟩:=ac
  (conv=>whnf);(repeat((first|refine⟨rfl,?_⟩|refine⟨D1,?_⟩);(try simp(disch:=omega) only[Qn,Qh,Qk,Ql,Qm,Qo,Qq,Qs,Qr,Qp,Qx,Qt,B,F,G,E]);conv=>whnf))
  refine Td Tryz.func143 rfl AV AU ?_;show Qw _ (Extern.Sync.canSpin #[.int .i64 ((it:Nat):Int)]) _ _;refine zb λ r hr=>⟨_,.refl _,?_⟩;rcases r with _|_
  case' true=>
   have hr:=hr rfl
   (conv=>whnf);(repeat((first|refine⟨rfl,?_⟩|refine⟨D1,?_⟩);(try simp(disch:=omega) only[Qn,Qh,Qk,Ql,Qm,Qo,Qq,Qs,Qr,Qp,Qx,Qt,B,F,G,E]);conv=>whnf))
   intro a0 aa;refine Zf _ aa Az ?_;rcases ag with⟨rfl,rfl,rfl⟩|⟨rfl,rfl,rfl⟩|⟨c,rfl,rfl⟩
   case' inl=>
    (conv=>whnf);(repeat((first|refine⟨rfl,?_⟩|refine⟨D1,?_⟩);(try simp(disch:=omega) only[Qn,Qh,Qk,Ql,Qm,Qo,Qq,Qs,Qr,Qp,Qx,Qt,B,F,G,E]);conv=>whnf))
    obtain rfl|rfl:wb=0\/wb=1:=O1
    case' inl=>
     (conv=>whnf);(repeat((first|refine⟨rfl,?_⟩|refine⟨D1,?_⟩);(try simp(disch:=omega) only[Qn,Qh,Qk,Ql,Qm,Qo,Qq,Qs,Qr,Qp,Qx,Qt,B,F,G,E]);conv=>whnf))
     refine Jb (λ hc=>?_) (λ hc=>?_)
     case' refine_1=>
      have av:0<n:=by
       rcases Nat.eq_zero_or_pos n with e|e
       .subst e;cases hc
       .exact e
      (conv=>whnf);(repeat((first|refine⟨rfl,?_⟩|refine⟨D1,?_⟩);(try simp(disch:=omega) only[Qn,Qh,Qk,Ql,Qm,Qo,Qq,Qs,Qr,Qp,Qx,Qt,B,F,G,E]);conv=>whnf))
      refine VZ (x:=⟨b,111,sp⟩) (w:=w) (n:=w+2) VG (VT b) rfl rfl rfl rfl rfl (λ z p2 h1 h2 h3 h4=>?_) (λ z p2 h1 h2 h3 h4 h5=>?_)
      case' refine_1=>
       obtain⟨l2,w2,s2,n2,f2⟩:=z;obtain⟨e1,e2,e3,e4⟩:=Jj h3 h4;simp only at e1 e2 e3 e4;refine⟨.idw,⟨l2,1,s2,n2,f2⟩,.spin O1 O1 O1 O1,by rw[<- h4];unfold LZ.st;simp only;omega,rfl,rfl,rfl,?_⟩
      all_goals((conv=>whnf);(repeat((first|refine⟨rfl,?_⟩|refine⟨D1,?_⟩);(try simp(disch:=omega) only[Qn,Qh,Qk,Ql,Qm,Qo,Qq,Qs,Qr,Qp,Qx,Qt,B,F,G,E]);conv=>whnf)))
    all_goals((conv=>whnf);(repeat((first|refine⟨rfl,?_⟩|refine⟨D1,?_⟩);(try simp(disch:=omega) only[Qn,Qh,Qk,Ql,Qm,Qo,Qq,Qs,Qr,Qp,Qx,Qt,B,F,G,E]);conv=>whnf)))
   all_goals((conv=>whnf);(repeat((first|refine⟨rfl,?_⟩|refine⟨D1,?_⟩);(try simp(disch:=omega) only[Qn,Qh,Qk,Ql,Qm,Qo,Qq,Qs,Qr,Qp,Qx,Qt,B,F,G,E]);conv=>whnf)))
   all_goals intro a' H
   all_goals refine⟨by rw[H.size,aa.size],_,H.get,?_⟩
   all_goals rw[H.ds]
   all_goals clear H aa a0
   all_goals((conv=>whnf);(repeat((first|refine⟨rfl,?_⟩|refine⟨D1,?_⟩);(try simp(disch:=omega) only[Qn,Qh,Qk,Ql,Qm,Qo,Qq,Qs,Qr,Qp,Qx,Qt,B,F,G,E]);conv=>whnf)))
   all_goals refine ED (v:=.tuple #[]) Tryz.func144 rfl Aw Av rfl ?_
   all_goals((conv=>whnf);(repeat((first|refine⟨rfl,?_⟩|refine⟨D1,?_⟩);(try simp(disch:=omega) only[Qn,Qh,Qk,Ql,Qm,Qo,Qq,Qs,Qr,Qp,Qx,Qt,B,F,G,E]);conv=>whnf)))
   all_goals refine⟨by simp only[Je];omega,?_⟩
   all_goals((conv=>whnf);(repeat((first|refine⟨rfl,?_⟩|refine⟨D1,?_⟩);(try simp(disch:=omega) only[Qn,Qh,Qk,Ql,Qm,Qo,Qq,Qs,Qr,Qp,Qx,Qt,B,F,G,E]);conv=>whnf)))
   all_goals intro a1 K
   all_goals refine Zf _ K RT ?_
   all_goals((conv=>whnf);(repeat((first|refine⟨rfl,?_⟩|refine⟨D1,?_⟩);(try simp(disch:=omega) only[Qn,Qh,Qk,Ql,Qm,Qo,Qq,Qs,Qr,Qp,Qx,Qt,B,F,G,E]);conv=>whnf)))
   all_goals refine JU (x:=⟨b,111,sp⟩) (es:=#[⟨.cell ⟨b,0,none⟩,false,false⟩]) (λ st sm=>K1) K1 rfl λ L p3 k1 k2 X N=>?_
   all_goals((conv=>whnf);(repeat((first|refine⟨rfl,?_⟩|refine⟨D1,?_⟩);(try simp(disch:=omega) only[Qn,Qh,Qk,Ql,Qm,Qo,Qq,Qs,Qr,Qp,Qx,Qt,B,F,G,E]);conv=>whnf)))
   all_goals intro a2 S
   all_goals refine⟨by rw[S.size,K.size],_,S.get,?_⟩
   all_goals rw[S.ds]
   all_goals((conv=>whnf))
   all_goals refine⟨rfl,⟨ws,_,_,it+1,L.st,_,(p3,L.st)⟩,T1,⟨rfl,by simp only;omega,X,rfl,⟨L,rfl,N⟩,?_⟩,?_⟩
   all_goals try(first|exact .inl ⟨rfl,rfl,rfl⟩|exact .inr (.inl ⟨rfl,rfl,rfl⟩)|exact .inr (.inr ⟨_,rfl,rfl⟩))
   all_goals simp only at k1
   all_goals refine LY.mu_lt X hp (.inr ⟨rfl,?_⟩)
   all_goals simp only
   all_goals omega
  have ac:True:=trivial
 case' neg=>
  have ap:l=0\/l=1:=O1
  obtain rfl|rfl:sb=0\/sb=1:=O1
  all_goals obtain rfl|rfl:=ap
  case' inl.inr=>exact absurd ⟨rfl,rfl⟩ ac
  all_goals replace ac:True:=trivial
 all_goals((conv=>whnf);(repeat((first|refine⟨rfl,?_⟩|refine⟨D1,?_⟩);(try simp(disch:=omega) only[Qn,Qh,Qk,Ql,Qm,Qo,Qq,Qs,Qr,Qp,Qx,Qt,B,F,G,E]);conv=>whnf)))
 all_goals rcases ag with⟨rfl,rfl,rfl⟩|⟨rfl,rfl,rfl⟩|⟨c,rfl,rfl⟩
 all_goals obtain⟨-,-,-,-,-,an⟩:=ab
 all_goals simp only at an
 all_goals try(exfalso;omega)
 all_goals try cases st
 all_goals((conv=>whnf);(repeat((first|refine⟨rfl,?_⟩|refine⟨D1,?_⟩);(try simp(disch:=omega) only[Qn,Qh,Qk,Ql,Qm,Qo,Qq,Qs,Qr,Qp,Qx,Qt,B,F,G,E]);conv=>whnf)))
 all_goals try refine Qe (λ hc=>absurd (beq_iff_eq.1 hc) O1) (λ hc=>?_)
 all_goals((conv=>whnf);(repeat((first|refine⟨rfl,?_⟩|refine⟨D1,?_⟩);(try simp(disch:=omega) only[Qn,Qh,Qk,Ql,Qm,Qo,Qq,Qs,Qr,Qp,Qx,Qt,B,F,G,E]);conv=>whnf)))
 all_goals intro a0 aa
 all_goals refine Zf _ aa RU ?_
 all_goals((conv=>whnf);(repeat((first|refine⟨rfl,?_⟩|refine⟨D1,?_⟩);(try simp(disch:=omega) only[Qn,Qh,Qk,Ql,Qm,Qo,Qq,Qs,Qr,Qp,Qx,Qt,B,F,G,E]);conv=>whnf)))
 all_goals refine VZ (x:=⟨b,111,sp⟩) (w:=w) VG (VT b) rfl rfl rfl rfl rfl (λ z p2 h1 h2 h3 h4=>?_) (λ z p2 h1 h2 h3 h4 h5=>by
  ((conv=>whnf);(repeat((first|refine⟨rfl,?_⟩|refine⟨D1,?_⟩);(try simp(disch:=omega) only[Qn,Qh,Qk,Ql,Qm,Qo,Qq,Qs,Qr,Qp,Qx,Qt,B,F,G,E]);conv=>whnf)))
  intro a' H;refine⟨by rw[H.size,aa.size],_,H.get,?_⟩;rw[H.ds];clear H aa a0
  ((conv=>whnf);(repeat((first|refine⟨rfl,?_⟩|refine⟨D1,?_⟩);(try simp(disch:=omega) only[Qn,Qh,Qk,Ql,Qm,Qo,Qq,Qs,Qr,Qp,Qx,Qt,B,F,G,E]);conv=>whnf)))
  intro a1 K;refine Zf _ K R_ ?_
  ((conv=>whnf);(repeat((first|refine⟨rfl,?_⟩|refine⟨D1,?_⟩);(try simp(disch:=omega) only[Qn,Qh,Qk,Ql,Qm,Qo,Qq,Qs,Qr,Qp,Qx,Qt,B,F,G,E]);conv=>whnf)))
  refine JU (x:=⟨b,111,sp⟩) (es:=#[⟨.cell ⟨b,0,none⟩,false,false⟩]) (λ st sm=>K1) K1 rfl λ L p3 k1 k2 X N=>?_
  ((conv=>whnf);(repeat((first|refine⟨rfl,?_⟩|refine⟨D1,?_⟩);(try simp(disch:=omega) only[Qn,Qh,Qk,Ql,Qm,Qo,Qq,Qs,Qr,Qp,Qx,Qt,B,F,G,E]);conv=>whnf)))
  intro a2 S;refine⟨by rw[S.size,K.size],_,S.get,?_⟩;rw[S.ds]
  ((conv=>whnf))
  simp only at h1 h2 k1;refine⟨rfl,⟨ws,_,_,it,L.st,_,(p3,L.st)⟩,T1,⟨rfl,aj,X,rfl,⟨L,rfl,N⟩,by first|exact .inl ⟨rfl,rfl,rfl⟩|exact .inr (.inl ⟨rfl,rfl,rfl⟩)|exact .inr (.inr ⟨_,rfl,rfl⟩)⟩,?_⟩;refine LY.mu_lt X hp (.inr ⟨rfl,.inl ?_⟩);have ax:p≠p2:=λ e=>h5 (h2 e).symm;show p<p3;omega)
 all_goals obtain⟨l2,w2,s2,n2,f2⟩:=z
 all_goals obtain⟨e1,e2,e3,e4⟩:=Jj h3 h4
 all_goals simp only at e1 e2 e3 e4
 all_goals first
  |refine⟨.got,⟨1,w2,s2,n2,f2⟩,.take O1 O1,(by rw[<- h4];unfold LZ.st;simp only;omega),rfl,rfl,rfl,?_⟩
  |refine⟨.got,⟨1,0,s2,n2,f2⟩,.takew O1 O1,(by rw[<- h4];unfold LZ.st;simp only;omega),rfl,rfl,rfl,?_⟩
  |refine⟨.got,⟨1,0,s2,n2,f2⟩,.takeo O1 O1,(by rw[<- h4];unfold LZ.st;simp only;omega),rfl,rfl,rfl,?_⟩
  |refine⟨.wai 0,⟨l2,w2,s2,n2+1,f2⟩,.que O1,(by rw[<- h4];unfold LZ.st;simp only;omega),rfl,rfl,rfl,?_⟩
  |refine⟨.wai 0,⟨l2,0,s2,n2+1,f2⟩,.quew O1 O1,(by rw[<- h4];unfold LZ.st;simp only;omega),rfl,rfl,rfl,?_⟩
  |refine⟨.wai (_+1),⟨l2,0,0,n2+1,f2⟩,.queo O1 O1 O1,(by rw[<- h4];unfold LZ.st;simp only;omega),rfl,rfl,rfl,?_⟩
  |refine⟨.wai (_+1),⟨l2,0,1,n2+1,f2⟩,.queo O1 O1 O1,(by rw[<- h4];unfold LZ.st;simp only;omega),rfl,rfl,rfl,?_⟩
  |skip
 all_goals((conv=>whnf);(repeat((first|refine⟨rfl,?_⟩|refine⟨D1,?_⟩);(try simp(disch:=omega) only[Qn,Qh,Qk,Ql,Qm,Qo,Qq,Qs,Qr,Qp,Qx,Qt,B,F,G,E]);conv=>whnf)))
 all_goals intro a' H
 all_goals refine⟨by rw[H.size,aa.size],_,H.get,?_⟩
 all_goals rw[H.ds]
 all_goals clear H aa a0
 all_goals((conv=>whnf);(repeat((first|refine⟨rfl,?_⟩|refine⟨D1,?_⟩);(try simp(disch:=omega) only[Qn,Qh,Qk,Ql,Qm,Qo,Qq,Qs,Qr,Qp,Qx,Qt,B,F,G,E]);conv=>whnf)))
 case' neg.inl.inl.inl=>
  intro a1 K;refine Zf _ K G_ ?_
  ((conv=>whnf);(repeat((first|refine⟨rfl,?_⟩|refine⟨D1,?_⟩);(try simp(disch:=omega) only[Qn,Qh,Qk,Ql,Qm,Qo,Qq,Qs,Qr,Qp,Qx,Qt,B,F,G,E]);conv=>whnf)))
  refine Xx (x:=⟨b,111,sp⟩) (m:=.enable) (d':=0) (.inr rfl) J8 rfl rfl rfl ?_
  ((conv=>whnf);(repeat((first|refine⟨rfl,?_⟩|refine⟨D1,?_⟩);(try simp(disch:=omega) only[Qn,Qh,Qk,Ql,Qm,Qo,Qq,Qs,Qr,Qp,Qx,Qt,B,F,G,E]);conv=>whnf)))
  intro a2 S;refine⟨by rw[S.size,K.size],_,S.get,?_⟩;rw[S.ds];clear S K a1
  ((conv=>whnf);(repeat((first|refine⟨rfl,?_⟩|refine⟨D1,?_⟩);(try simp(disch:=omega) only[Qn,Qh,Qk,Ql,Qm,Qo,Qq,Qs,Qr,Qp,Qx,Qt,B,F,G,E]);conv=>whnf)))
  intro a3 Y;refine Zf _ Y P0 ?_
  ((conv=>whnf);(repeat((first|refine⟨rfl,?_⟩|refine⟨D1,?_⟩);(try simp(disch:=omega) only[Qn,Qh,Qk,Ql,Qm,Qo,Qq,Qs,Qr,Qp,Qx,Qt,B,F,G,E]);conv=>whnf)))
  refine XY (x:=⟨b,111,sp⟩) (bs:=[(b,false),(b,false)]) (v:=.pointer (some ⟨b,0,none⟩)) (λ st sm=>K1) Z9 (Wr _ _) rfl ?_
  ((conv=>whnf);(repeat((first|refine⟨rfl,?_⟩|refine⟨D1,?_⟩);(try simp(disch:=omega) only[Qn,Qh,Qk,Ql,Qm,Qo,Qq,Qs,Qr,Qp,Qx,Qt,B,F,G,E]);conv=>whnf)))
  refine Gp (x:=⟨b,111,sp⟩) Ha rfl rfl rfl λ R M g1 g2=>?_
  ((conv=>whnf);(repeat((first|refine⟨rfl,?_⟩|refine⟨D1,?_⟩);(try simp(disch:=omega) only[Qn,Qh,Qk,Ql,Qm,Qo,Qq,Qs,Qr,Qp,Qx,Qt,B,F,G,E]);conv=>whnf)))
  intro a4 H4;refine⟨by rw[H4.size,Y.size],_,H4.get,?_⟩;rw[H4.ds]
  ((conv=>whnf);(repeat((first|refine⟨rfl,?_⟩|refine⟨D1,?_⟩);(try simp(disch:=omega) only[Qn,Qh,Qk,Ql,Qm,Qo,Qq,Qs,Qr,Qp,Qx,Qt,B,F,G,E]);conv=>whnf)))
  exact Z R M _ g1 g2
 case' neg.inl.inl.inr.inl=>
  intro a1 K;refine Zf _ K G_ ?_
  ((conv=>whnf);(repeat((first|refine⟨rfl,?_⟩|refine⟨D1,?_⟩);(try simp(disch:=omega) only[Qn,Qh,Qk,Ql,Qm,Qo,Qq,Qs,Qr,Qp,Qx,Qt,B,F,G,E]);conv=>whnf)))
  refine Xx (x:=⟨b,111,sp⟩) (m:=.enable) (d':=0) (.inr rfl) J8 rfl rfl rfl ?_
  ((conv=>whnf);(repeat((first|refine⟨rfl,?_⟩|refine⟨D1,?_⟩);(try simp(disch:=omega) only[Qn,Qh,Qk,Ql,Qm,Qo,Qq,Qs,Qr,Qp,Qx,Qt,B,F,G,E]);conv=>whnf)))
  intro a2 S;refine⟨by rw[S.size,K.size],_,S.get,?_⟩;rw[S.ds];clear S K a1
  ((conv=>whnf);(repeat((first|refine⟨rfl,?_⟩|refine⟨D1,?_⟩);(try simp(disch:=omega) only[Qn,Qh,Qk,Ql,Qm,Qo,Qq,Qs,Qr,Qp,Qx,Qt,B,F,G,E]);conv=>whnf)))
  intro a3 Y;refine Zf _ Y P0 ?_
  ((conv=>whnf);(repeat((first|refine⟨rfl,?_⟩|refine⟨D1,?_⟩);(try simp(disch:=omega) only[Qn,Qh,Qk,Ql,Qm,Qo,Qq,Qs,Qr,Qp,Qx,Qt,B,F,G,E]);conv=>whnf)))
  refine XY (x:=⟨b,111,sp⟩) (bs:=[(b,false),(b,false)]) (v:=.pointer (some ⟨b,0,none⟩)) (λ st sm=>K1) Z9 (Wr _ _) rfl ?_
  ((conv=>whnf);(repeat((first|refine⟨rfl,?_⟩|refine⟨D1,?_⟩);(try simp(disch:=omega) only[Qn,Qh,Qk,Ql,Qm,Qo,Qq,Qs,Qr,Qp,Qx,Qt,B,F,G,E]);conv=>whnf)))
  refine Gp (x:=⟨b,111,sp⟩) Ha rfl rfl rfl λ R M g1 g2=>?_
  ((conv=>whnf);(repeat((first|refine⟨rfl,?_⟩|refine⟨D1,?_⟩);(try simp(disch:=omega) only[Qn,Qh,Qk,Ql,Qm,Qo,Qq,Qs,Qr,Qp,Qx,Qt,B,F,G,E]);conv=>whnf)))
  intro a4 H4;refine⟨by rw[H4.size,Y.size],_,H4.get,?_⟩;rw[H4.ds]
  ((conv=>whnf);(repeat((first|refine⟨rfl,?_⟩|refine⟨D1,?_⟩);(try simp(disch:=omega) only[Qn,Qh,Qk,Ql,Qm,Qo,Qq,Qs,Qr,Qp,Qx,Qt,B,F,G,E]);conv=>whnf)))
  exact Z R M _ g1 g2
 case' neg.inl.inl.inr.inr.false=>
  intro a1 K;refine Zf _ K G_ ?_
  ((conv=>whnf);(repeat((first|refine⟨rfl,?_⟩|refine⟨D1,?_⟩);(try simp(disch:=omega) only[Qn,Qh,Qk,Ql,Qm,Qo,Qq,Qs,Qr,Qp,Qx,Qt,B,F,G,E]);conv=>whnf)))
  refine Xx (x:=⟨b,111,sp⟩) (m:=.enable) (d':=0) (.inr rfl) J8 rfl rfl rfl ?_
  ((conv=>whnf);(repeat((first|refine⟨rfl,?_⟩|refine⟨D1,?_⟩);(try simp(disch:=omega) only[Qn,Qh,Qk,Ql,Qm,Qo,Qq,Qs,Qr,Qp,Qx,Qt,B,F,G,E]);conv=>whnf)))
  intro a2 S;refine⟨by rw[S.size,K.size],_,S.get,?_⟩;rw[S.ds];clear S K a1
  ((conv=>whnf);(repeat((first|refine⟨rfl,?_⟩|refine⟨D1,?_⟩);(try simp(disch:=omega) only[Qn,Qh,Qk,Ql,Qm,Qo,Qq,Qs,Qr,Qp,Qx,Qt,B,F,G,E]);conv=>whnf)))
  intro a3 Y;refine Zf _ Y P0 ?_
  ((conv=>whnf);(repeat((first|refine⟨rfl,?_⟩|refine⟨D1,?_⟩);(try simp(disch:=omega) only[Qn,Qh,Qk,Ql,Qm,Qo,Qq,Qs,Qr,Qp,Qx,Qt,B,F,G,E]);conv=>whnf)))
  refine XY (x:=⟨b,111,sp⟩) (bs:=[(b,false),(b,false)]) (v:=.pointer (some ⟨b,0,none⟩)) (λ st sm=>K1) Z9 (Wr _ _) rfl ?_
  ((conv=>whnf);(repeat((first|refine⟨rfl,?_⟩|refine⟨D1,?_⟩);(try simp(disch:=omega) only[Qn,Qh,Qk,Ql,Qm,Qo,Qq,Qs,Qr,Qp,Qx,Qt,B,F,G,E]);conv=>whnf)))
  refine Gp (x:=⟨b,111,sp⟩) Ha rfl rfl rfl λ R M g1 g2=>?_
  ((conv=>whnf);(repeat((first|refine⟨rfl,?_⟩|refine⟨D1,?_⟩);(try simp(disch:=omega) only[Qn,Qh,Qk,Ql,Qm,Qo,Qq,Qs,Qr,Qp,Qx,Qt,B,F,G,E]);conv=>whnf)))
  intro a4 H4;refine⟨by rw[H4.size,Y.size],_,H4.get,?_⟩;rw[H4.ds]
  ((conv=>whnf);(repeat((first|refine⟨rfl,?_⟩|refine⟨D1,?_⟩);(try simp(disch:=omega) only[Qn,Qh,Qk,Ql,Qm,Qo,Qq,Qs,Qr,Qp,Qx,Qt,B,F,G,E]);conv=>whnf)))
  exact Z R M _ g1 g2
 case' neg.inl.inl.inr.inr.true=>
  intro a1 K;refine Zf _ K G_ ?_
  ((conv=>whnf);(repeat((first|refine⟨rfl,?_⟩|refine⟨D1,?_⟩);(try simp(disch:=omega) only[Qn,Qh,Qk,Ql,Qm,Qo,Qq,Qs,Qr,Qp,Qx,Qt,B,F,G,E]);conv=>whnf)))
  refine Xx (x:=⟨b,111,sp⟩) (m:=.enable) (d':=0) (.inr rfl) J8 rfl rfl rfl ?_
  ((conv=>whnf);(repeat((first|refine⟨rfl,?_⟩|refine⟨D1,?_⟩);(try simp(disch:=omega) only[Qn,Qh,Qk,Ql,Qm,Qo,Qq,Qs,Qr,Qp,Qx,Qt,B,F,G,E]);conv=>whnf)))
  intro a2 S;refine⟨by rw[S.size,K.size],_,S.get,?_⟩;rw[S.ds];clear S K a1
  ((conv=>whnf);(repeat((first|refine⟨rfl,?_⟩|refine⟨D1,?_⟩);(try simp(disch:=omega) only[Qn,Qh,Qk,Ql,Qm,Qo,Qq,Qs,Qr,Qp,Qx,Qt,B,F,G,E]);conv=>whnf)))
  intro a3 Y;refine Zf _ Y P0 ?_
  ((conv=>whnf);(repeat((first|refine⟨rfl,?_⟩|refine⟨D1,?_⟩);(try simp(disch:=omega) only[Qn,Qh,Qk,Ql,Qm,Qo,Qq,Qs,Qr,Qp,Qx,Qt,B,F,G,E]);conv=>whnf)))
  refine XY (x:=⟨b,111,sp⟩) (bs:=[(b,false),(b,false)]) (v:=.pointer (some ⟨b,0,none⟩)) (λ st sm=>K1) Z9 (Wr _ _) rfl ?_
  ((conv=>whnf);(repeat((first|refine⟨rfl,?_⟩|refine⟨D1,?_⟩);(try simp(disch:=omega) only[Qn,Qh,Qk,Ql,Qm,Qo,Qq,Qs,Qr,Qp,Qx,Qt,B,F,G,E]);conv=>whnf)))
  refine Gp (x:=⟨b,111,sp⟩) Ha rfl rfl rfl λ R M g1 g2=>?_
  ((conv=>whnf);(repeat((first|refine⟨rfl,?_⟩|refine⟨D1,?_⟩);(try simp(disch:=omega) only[Qn,Qh,Qk,Ql,Qm,Qo,Qq,Qs,Qr,Qp,Qx,Qt,B,F,G,E]);conv=>whnf)))
  intro a4 H4;refine⟨by rw[H4.size,Y.size],_,H4.get,?_⟩;rw[H4.ds]
  ((conv=>whnf);(repeat((first|refine⟨rfl,?_⟩|refine⟨D1,?_⟩);(try simp(disch:=omega) only[Qn,Qh,Qk,Ql,Qm,Qo,Qq,Qs,Qr,Qp,Qx,Qt,B,F,G,E]);conv=>whnf)))
  exact Z R M _ g1 g2
 all_goals refine Qe (λ hc=>?_) (λ hc=>?_)
 all_goals((conv=>whnf))
 case' neg.inr.inl.inl.refine_1=>
  intro a1 K;refine Zf _ K Gb ?_
  ((conv=>whnf);(repeat((first|refine⟨rfl,?_⟩|refine⟨D1,?_⟩);(try simp(disch:=omega) only[Qn,Qh,Qk,Ql,Qm,Qo,Qq,Qs,Qr,Qp,Qx,Qt,B,F,G,E]);conv=>whnf)))
  refine HI rfl Tryz.func146 K1 K1 HD HC K1 λ n1=>?_
  ((conv=>whnf);(repeat((first|refine⟨rfl,?_⟩|refine⟨D1,?_⟩);(try simp(disch:=omega) only[Qn,Qh,Qk,Ql,Qm,Qo,Qq,Qs,Qr,Qp,Qx,Qt,B,F,G,E]);conv=>whnf)))
  intro a2 S;refine⟨by rw[S.size,K.size],_,S.get,?_⟩;rw[S.ds];clear S K a1
  ((conv=>whnf);(repeat((first|refine⟨rfl,?_⟩|refine⟨D1,?_⟩);(try simp(disch:=omega) only[Qn,Qh,Qk,Ql,Qm,Qo,Qq,Qs,Qr,Qp,Qx,Qt,B,F,G,E]);conv=>whnf)))
 case' neg.inr.inr.inl.refine_1=>
  intro a1 K;refine Zf _ K Gb ?_
  ((conv=>whnf);(repeat((first|refine⟨rfl,?_⟩|refine⟨D1,?_⟩);(try simp(disch:=omega) only[Qn,Qh,Qk,Ql,Qm,Qo,Qq,Qs,Qr,Qp,Qx,Qt,B,F,G,E]);conv=>whnf)))
  refine HI rfl Tryz.func146 K1 K1 HD HC K1 λ n1=>?_
  ((conv=>whnf);(repeat((first|refine⟨rfl,?_⟩|refine⟨D1,?_⟩);(try simp(disch:=omega) only[Qn,Qh,Qk,Ql,Qm,Qo,Qq,Qs,Qr,Qp,Qx,Qt,B,F,G,E]);conv=>whnf)))
  intro a2 S;refine⟨by rw[S.size,K.size],_,S.get,?_⟩;rw[S.ds];clear S K a1
  ((conv=>whnf);(repeat((first|refine⟨rfl,?_⟩|refine⟨D1,?_⟩);(try simp(disch:=omega) only[Qn,Qh,Qk,Ql,Qm,Qo,Qq,Qs,Qr,Qp,Qx,Qt,B,F,G,E]);conv=>whnf)))
 case' pos.inl.refine_1=>
  intro a1 K;refine Zf _ K Gb ?_
  ((conv=>whnf);(repeat((first|refine⟨rfl,?_⟩|refine⟨D1,?_⟩);(try simp(disch:=omega) only[Qn,Qh,Qk,Ql,Qm,Qo,Qq,Qs,Qr,Qp,Qx,Qt,B,F,G,E]);conv=>whnf)))
  refine HI rfl Tryz.func146 K1 K1 HD HC K1 λ n1=>?_
  ((conv=>whnf);(repeat((first|refine⟨rfl,?_⟩|refine⟨D1,?_⟩);(try simp(disch:=omega) only[Qn,Qh,Qk,Ql,Qm,Qo,Qq,Qs,Qr,Qp,Qx,Qt,B,F,G,E]);conv=>whnf)))
  intro a2 S;refine⟨by rw[S.size,K.size],_,S.get,?_⟩;rw[S.ds];clear S K a1
  ((conv=>whnf);(repeat((first|refine⟨rfl,?_⟩|refine⟨D1,?_⟩);(try simp(disch:=omega) only[Qn,Qh,Qk,Ql,Qm,Qo,Qq,Qs,Qr,Qp,Qx,Qt,B,F,G,E]);conv=>whnf)))
 case' pos.inr.inl.refine_1=>
  intro a1 K;refine Zf _ K Gb ?_
  ((conv=>whnf);(repeat((first|refine⟨rfl,?_⟩|refine⟨D1,?_⟩);(try simp(disch:=omega) only[Qn,Qh,Qk,Ql,Qm,Qo,Qq,Qs,Qr,Qp,Qx,Qt,B,F,G,E]);conv=>whnf)))
  refine HI rfl Tryz.func146 K1 K1 HD HC K1 λ n1=>?_
  ((conv=>whnf);(repeat((first|refine⟨rfl,?_⟩|refine⟨D1,?_⟩);(try simp(disch:=omega) only[Qn,Qh,Qk,Ql,Qm,Qo,Qq,Qs,Qr,Qp,Qx,Qt,B,F,G,E]);conv=>whnf)))
  intro a2 S;refine⟨by rw[S.size,K.size],_,S.get,?_⟩;rw[S.ds];clear S K a1
  ((conv=>whnf);(repeat((first|refine⟨rfl,?_⟩|refine⟨D1,?_⟩);(try simp(disch:=omega) only[Qn,Qh,Qk,Ql,Qm,Qo,Qq,Qs,Qr,Qp,Qx,Qt,B,F,G,E]);conv=>whnf)))
 case' pos.inr.inr.false.refine_1=>
  intro a1 K;refine Zf _ K Gb ?_
  ((conv=>whnf);(repeat((first|refine⟨rfl,?_⟩|refine⟨D1,?_⟩);(try simp(disch:=omega) only[Qn,Qh,Qk,Ql,Qm,Qo,Qq,Qs,Qr,Qp,Qx,Qt,B,F,G,E]);conv=>whnf)))
  refine HI rfl Tryz.func146 K1 K1 HD HC K1 λ n1=>?_
  ((conv=>whnf);(repeat((first|refine⟨rfl,?_⟩|refine⟨D1,?_⟩);(try simp(disch:=omega) only[Qn,Qh,Qk,Ql,Qm,Qo,Qq,Qs,Qr,Qp,Qx,Qt,B,F,G,E]);conv=>whnf)))
  intro a2 S;refine⟨by rw[S.size,K.size],_,S.get,?_⟩;rw[S.ds];clear S K a1
  ((conv=>whnf);(repeat((first|refine⟨rfl,?_⟩|refine⟨D1,?_⟩);(try simp(disch:=omega) only[Qn,Qh,Qk,Ql,Qm,Qo,Qq,Qs,Qr,Qp,Qx,Qt,B,F,G,E]);conv=>whnf)))
 case' pos.inr.inr.true.refine_1=>
  intro a1 K;refine Zf _ K Gb ?_
  ((conv=>whnf);(repeat((first|refine⟨rfl,?_⟩|refine⟨D1,?_⟩);(try simp(disch:=omega) only[Qn,Qh,Qk,Ql,Qm,Qo,Qq,Qs,Qr,Qp,Qx,Qt,B,F,G,E]);conv=>whnf)))
  refine HI rfl Tryz.func146 K1 K1 HD HC K1 λ n1=>?_
  ((conv=>whnf);(repeat((first|refine⟨rfl,?_⟩|refine⟨D1,?_⟩);(try simp(disch:=omega) only[Qn,Qh,Qk,Ql,Qm,Qo,Qq,Qs,Qr,Qp,Qx,Qt,B,F,G,E]);conv=>whnf)))
  intro a2 S;refine⟨by rw[S.size,K.size],_,S.get,?_⟩;rw[S.ds];clear S K a1
  ((conv=>whnf);(repeat((first|refine⟨rfl,?_⟩|refine⟨D1,?_⟩);(try simp(disch:=omega) only[Qn,Qh,Qk,Ql,Qm,Qo,Qq,Qs,Qr,Qp,Qx,Qt,B,F,G,E]);conv=>whnf)))
 all_goals intro a1 K
 all_goals refine Zf _ K RW ?_
 all_goals((conv=>whnf);(repeat((first|refine⟨rfl,?_⟩|refine⟨D1,?_⟩);(try simp(disch:=omega) only[Qn,Qh,Qk,Ql,Qm,Qo,Qq,Qs,Qr,Qp,Qx,Qt,B,F,G,E]);conv=>whnf)))
 all_goals refine MD (x:=⟨b,111,sp⟩) (ps:=[_,_]) Fl rfl rfl rfl λ ay al=>?_
 all_goals((conv=>whnf);(repeat((first|refine⟨rfl,?_⟩|refine⟨D1,?_⟩);(try simp(disch:=omega) only[Qn,Qh,Qk,Ql,Qm,Qo,Qq,Qs,Qr,Qp,Qx,Qt,B,F,G,E]);conv=>whnf)))
 all_goals intro a2 S
 all_goals refine⟨by rw[S.size,K.size],_,S.get,?_⟩
 all_goals rw[S.ds]
 all_goals clear S K a1
 all_goals((conv=>whnf);(repeat((first|refine⟨rfl,?_⟩|refine⟨D1,?_⟩);(try simp(disch:=omega) only[Qn,Qh,Qk,Ql,Qm,Qo,Qq,Qs,Qr,Qp,Qx,Qt,B,F,G,E]);conv=>whnf)))
 all_goals intro a3 Y
 all_goals refine Zf _ Y RX ?_
 all_goals((conv=>whnf);(repeat((first|refine⟨rfl,?_⟩|refine⟨D1,?_⟩);(try simp(disch:=omega) only[Qn,Qh,Qk,Ql,Qm,Qo,Qq,Qs,Qr,Qp,Qx,Qt,B,F,G,E]);conv=>whnf)))
 all_goals try refine HI rfl Tryz.func146 K1 K1 HD HC K1 λ n2=>?_
 all_goals((conv=>whnf);(repeat((first|refine⟨rfl,?_⟩|refine⟨D1,?_⟩);(try simp(disch:=omega) only[Qn,Qh,Qk,Ql,Qm,Qo,Qq,Qs,Qr,Qp,Qx,Qt,B,F,G,E]);conv=>whnf)))
 all_goals try(first
  |refine XY (x:=⟨b,111,sp⟩) (bs:=[]) (v:=.int .i64 (IntKind.wrap .i64 (n2-n1))) (λ st sm=>K1) Z0 (Wr _ _) rfl ?_
  |refine XY (x:=⟨b,111,sp⟩) (bs:=[]) (v:=.int .i64 (IntKind.wrap .i64 (n2-ws))) (λ st sm=>K1) Z0 (Wr _ _) rfl ?_)
 all_goals((conv=>whnf);(repeat((first|refine⟨rfl,?_⟩|refine⟨D1,?_⟩);(try simp(disch:=omega) only[Qn,Qh,Qk,Ql,Qm,Qo,Qq,Qs,Qr,Qp,Qx,Qt,B,F,G,E]);conv=>whnf)))
 all_goals intro a4 H4
 all_goals refine⟨by rw[H4.size,Y.size],_,H4.get,?_⟩
 all_goals rw[H4.ds]
 all_goals clear H4 Y a3
 all_goals((conv=>whnf);(repeat((first|refine⟨rfl,?_⟩|refine⟨D1,?_⟩);(try simp(disch:=omega) only[Qn,Qh,Qk,Ql,Qm,Qo,Qq,Qs,Qr,Qp,Qx,Qt,B,F,G,E]);conv=>whnf)))
 all_goals intro a5 T
 all_goals refine Zf _ T RY ?_
 all_goals((conv=>whnf);(repeat((first|refine⟨rfl,?_⟩|refine⟨D1,?_⟩);(try simp(disch:=omega) only[Qn,Qh,Qk,Ql,Qm,Qo,Qq,Qs,Qr,Qp,Qx,Qt,B,F,G,E]);conv=>whnf)))
 all_goals obtain rfl|rfl:=al
 case' neg.inr.inl.inl.refine_1.inl=>
  refine JU (x:=⟨b,111,sp⟩) (es:=#[⟨.cell ⟨b,0,none⟩,false,false⟩]) (λ st sm=>K1) K1 rfl λ L p3 k1 k2 X N=>?_
  ((conv=>whnf);(repeat((first|refine⟨rfl,?_⟩|refine⟨D1,?_⟩);(try simp(disch:=omega) only[Qn,Qh,Qk,Ql,Qm,Qo,Qq,Qs,Qr,Qp,Qx,Qt,B,F,G,E]);conv=>whnf)))
  intro a6 P;refine⟨by rw[P.size,T.size],_,P.get,?_⟩;rw[P.ds];clear P T a5
  ((conv=>whnf);(repeat((first|refine⟨rfl,?_⟩|refine⟨D1,?_⟩);(try simp(disch:=omega) only[Qn,Qh,Qk,Ql,Qm,Qo,Qq,Qs,Qr,Qp,Qx,Qt,B,F,G,E]);conv=>whnf)))
  have V:=Jj N rfl;have W:L.st<512:=by(have Z:=N;obtain⟨j1,j2,j3,j4,j5,-⟩:=Z;unfold LZ.st;omega)
  rw[Qh W,<- V.2.1];have I:=N.2.2.2.2.2;simp only at I;rw[I.2.1]
  ((conv=>whnf);(repeat((first|refine⟨rfl,?_⟩|refine⟨D1,?_⟩);(try simp(disch:=omega) only[Qn,Qh,Qk,Ql,Qm,Qo,Qq,Qs,Qr,Qp,Qx,Qt,B,F,G,E]);conv=>whnf)))
  refine⟨⟨_,_,true,0,L.st,.wok _,(p3,L.st)⟩,T1,⟨rfl,by simp only;omega,X,rfl,⟨L,rfl,N⟩,.inr (.inr ⟨_,rfl,rfl⟩)⟩,?_⟩;refine LY.mu_lt X hp (.inl ?_);simp only[LY.rk];omega
 case' neg.inr.inl.inl.refine_2.inl=>
  refine JU (x:=⟨b,111,sp⟩) (es:=#[⟨.cell ⟨b,0,none⟩,false,false⟩]) (λ st sm=>K1) K1 rfl λ L p3 k1 k2 X N=>?_
  ((conv=>whnf);(repeat((first|refine⟨rfl,?_⟩|refine⟨D1,?_⟩);(try simp(disch:=omega) only[Qn,Qh,Qk,Ql,Qm,Qo,Qq,Qs,Qr,Qp,Qx,Qt,B,F,G,E]);conv=>whnf)))
  intro a6 P;refine⟨by rw[P.size,T.size],_,P.get,?_⟩;rw[P.ds];clear P T a5
  ((conv=>whnf);(repeat((first|refine⟨rfl,?_⟩|refine⟨D1,?_⟩);(try simp(disch:=omega) only[Qn,Qh,Qk,Ql,Qm,Qo,Qq,Qs,Qr,Qp,Qx,Qt,B,F,G,E]);conv=>whnf)))
  have V:=Jj N rfl;have W:L.st<512:=by(have Z:=N;obtain⟨j1,j2,j3,j4,j5,-⟩:=Z;unfold LZ.st;omega)
  rw[Qh W,<- V.2.1];have I:=N.2.2.2.2.2;simp only at I;rw[I.2.1]
  ((conv=>whnf);(repeat((first|refine⟨rfl,?_⟩|refine⟨D1,?_⟩);(try simp(disch:=omega) only[Qn,Qh,Qk,Ql,Qm,Qo,Qq,Qs,Qr,Qp,Qx,Qt,B,F,G,E]);conv=>whnf)))
  refine⟨⟨_,_,true,0,L.st,.wok _,(p3,L.st)⟩,T1,⟨rfl,by simp only;omega,X,rfl,⟨L,rfl,N⟩,.inr (.inr ⟨_,rfl,rfl⟩)⟩,?_⟩;refine LY.mu_lt X hp (.inl ?_);simp only[LY.rk];omega
 case' neg.inr.inr.inl.refine_1.inl=>
  refine JU (x:=⟨b,111,sp⟩) (es:=#[⟨.cell ⟨b,0,none⟩,false,false⟩]) (λ st sm=>K1) K1 rfl λ L p3 k1 k2 X N=>?_
  ((conv=>whnf);(repeat((first|refine⟨rfl,?_⟩|refine⟨D1,?_⟩);(try simp(disch:=omega) only[Qn,Qh,Qk,Ql,Qm,Qo,Qq,Qs,Qr,Qp,Qx,Qt,B,F,G,E]);conv=>whnf)))
  intro a6 P;refine⟨by rw[P.size,T.size],_,P.get,?_⟩;rw[P.ds];clear P T a5
  ((conv=>whnf);(repeat((first|refine⟨rfl,?_⟩|refine⟨D1,?_⟩);(try simp(disch:=omega) only[Qn,Qh,Qk,Ql,Qm,Qo,Qq,Qs,Qr,Qp,Qx,Qt,B,F,G,E]);conv=>whnf)))
  have V:=Jj N rfl;have W:L.st<512:=by(have Z:=N;obtain⟨j1,j2,j3,j4,j5,-⟩:=Z;unfold LZ.st;omega)
  rw[Qh W,<- V.2.1];have I:=N.2.2.2.2.2;simp only at I;rw[I.2.1]
  ((conv=>whnf);(repeat((first|refine⟨rfl,?_⟩|refine⟨D1,?_⟩);(try simp(disch:=omega) only[Qn,Qh,Qk,Ql,Qm,Qo,Qq,Qs,Qr,Qp,Qx,Qt,B,F,G,E]);conv=>whnf)))
  refine⟨⟨_,_,true,0,L.st,.wok _,(p3,L.st)⟩,T1,⟨rfl,by simp only;omega,X,rfl,⟨L,rfl,N⟩,.inr (.inr ⟨_,rfl,rfl⟩)⟩,?_⟩;refine LY.mu_lt X hp (.inl ?_);simp only[LY.rk];omega
 case' neg.inr.inr.inl.refine_2.inl=>
  refine JU (x:=⟨b,111,sp⟩) (es:=#[⟨.cell ⟨b,0,none⟩,false,false⟩]) (λ st sm=>K1) K1 rfl λ L p3 k1 k2 X N=>?_
  ((conv=>whnf);(repeat((first|refine⟨rfl,?_⟩|refine⟨D1,?_⟩);(try simp(disch:=omega) only[Qn,Qh,Qk,Ql,Qm,Qo,Qq,Qs,Qr,Qp,Qx,Qt,B,F,G,E]);conv=>whnf)))
  intro a6 P;refine⟨by rw[P.size,T.size],_,P.get,?_⟩;rw[P.ds];clear P T a5
  ((conv=>whnf);(repeat((first|refine⟨rfl,?_⟩|refine⟨D1,?_⟩);(try simp(disch:=omega) only[Qn,Qh,Qk,Ql,Qm,Qo,Qq,Qs,Qr,Qp,Qx,Qt,B,F,G,E]);conv=>whnf)))
  have V:=Jj N rfl;have W:L.st<512:=by(have Z:=N;obtain⟨j1,j2,j3,j4,j5,-⟩:=Z;unfold LZ.st;omega)
  rw[Qh W,<- V.2.1];have I:=N.2.2.2.2.2;simp only at I;rw[I.2.1]
  ((conv=>whnf);(repeat((first|refine⟨rfl,?_⟩|refine⟨D1,?_⟩);(try simp(disch:=omega) only[Qn,Qh,Qk,Ql,Qm,Qo,Qq,Qs,Qr,Qp,Qx,Qt,B,F,G,E]);conv=>whnf)))
  refine⟨⟨_,_,true,0,L.st,.wok _,(p3,L.st)⟩,T1,⟨rfl,by simp only;omega,X,rfl,⟨L,rfl,N⟩,.inr (.inr ⟨_,rfl,rfl⟩)⟩,?_⟩;refine LY.mu_lt X hp (.inl ?_);simp only[LY.rk];omega
 case' pos.inl.refine_1.inl=>
  refine JU (x:=⟨b,111,sp⟩) (es:=#[⟨.cell ⟨b,0,none⟩,false,false⟩]) (λ st sm=>K1) K1 rfl λ L p3 k1 k2 X N=>?_
  ((conv=>whnf);(repeat((first|refine⟨rfl,?_⟩|refine⟨D1,?_⟩);(try simp(disch:=omega) only[Qn,Qh,Qk,Ql,Qm,Qo,Qq,Qs,Qr,Qp,Qx,Qt,B,F,G,E]);conv=>whnf)))
  intro a6 P;refine⟨by rw[P.size,T.size],_,P.get,?_⟩;rw[P.ds];clear P T a5
  ((conv=>whnf);(repeat((first|refine⟨rfl,?_⟩|refine⟨D1,?_⟩);(try simp(disch:=omega) only[Qn,Qh,Qk,Ql,Qm,Qo,Qq,Qs,Qr,Qp,Qx,Qt,B,F,G,E]);conv=>whnf)))
  have V:=Jj N rfl;have W:L.st<512:=by(have Z:=N;obtain⟨j1,j2,j3,j4,j5,-⟩:=Z;unfold LZ.st;omega)
  rw[Qh W,<- V.2.1];have I:=N.2.2.2.2.2;simp only at I;rw[I.2.1]
  ((conv=>whnf);(repeat((first|refine⟨rfl,?_⟩|refine⟨D1,?_⟩);(try simp(disch:=omega) only[Qn,Qh,Qk,Ql,Qm,Qo,Qq,Qs,Qr,Qp,Qx,Qt,B,F,G,E]);conv=>whnf)))
  refine⟨⟨_,_,true,0,L.st,.wok _,(p3,L.st)⟩,T1,⟨rfl,by simp only;omega,X,rfl,⟨L,rfl,N⟩,.inr (.inr ⟨_,rfl,rfl⟩)⟩,?_⟩;refine LY.mu_lt X hp (.inl ?_);simp only[LY.rk];omega
 case' pos.inl.refine_2.inl=>
  refine JU (x:=⟨b,111,sp⟩) (es:=#[⟨.cell ⟨b,0,none⟩,false,false⟩]) (λ st sm=>K1) K1 rfl λ L p3 k1 k2 X N=>?_
  ((conv=>whnf);(repeat((first|refine⟨rfl,?_⟩|refine⟨D1,?_⟩);(try simp(disch:=omega) only[Qn,Qh,Qk,Ql,Qm,Qo,Qq,Qs,Qr,Qp,Qx,Qt,B,F,G,E]);conv=>whnf)))
  intro a6 P;refine⟨by rw[P.size,T.size],_,P.get,?_⟩;rw[P.ds];clear P T a5
  ((conv=>whnf);(repeat((first|refine⟨rfl,?_⟩|refine⟨D1,?_⟩);(try simp(disch:=omega) only[Qn,Qh,Qk,Ql,Qm,Qo,Qq,Qs,Qr,Qp,Qx,Qt,B,F,G,E]);conv=>whnf)))
  have V:=Jj N rfl;have W:L.st<512:=by(have Z:=N;obtain⟨j1,j2,j3,j4,j5,-⟩:=Z;unfold LZ.st;omega)
  rw[Qh W,<- V.2.1];have I:=N.2.2.2.2.2;simp only at I;rw[I.2.1]
  ((conv=>whnf);(repeat((first|refine⟨rfl,?_⟩|refine⟨D1,?_⟩);(try simp(disch:=omega) only[Qn,Qh,Qk,Ql,Qm,Qo,Qq,Qs,Qr,Qp,Qx,Qt,B,F,G,E]);conv=>whnf)))
  refine⟨⟨_,_,true,0,L.st,.wok _,(p3,L.st)⟩,T1,⟨rfl,by simp only;omega,X,rfl,⟨L,rfl,N⟩,.inr (.inr ⟨_,rfl,rfl⟩)⟩,?_⟩;refine LY.mu_lt X hp (.inl ?_);simp only[LY.rk];omega
 case' pos.inr.inl.refine_1.inl=>
  refine JU (x:=⟨b,111,sp⟩) (es:=#[⟨.cell ⟨b,0,none⟩,false,false⟩]) (λ st sm=>K1) K1 rfl λ L p3 k1 k2 X N=>?_
  ((conv=>whnf);(repeat((first|refine⟨rfl,?_⟩|refine⟨D1,?_⟩);(try simp(disch:=omega) only[Qn,Qh,Qk,Ql,Qm,Qo,Qq,Qs,Qr,Qp,Qx,Qt,B,F,G,E]);conv=>whnf)))
  intro a6 P;refine⟨by rw[P.size,T.size],_,P.get,?_⟩;rw[P.ds];clear P T a5
  ((conv=>whnf);(repeat((first|refine⟨rfl,?_⟩|refine⟨D1,?_⟩);(try simp(disch:=omega) only[Qn,Qh,Qk,Ql,Qm,Qo,Qq,Qs,Qr,Qp,Qx,Qt,B,F,G,E]);conv=>whnf)))
  have V:=Jj N rfl;have W:L.st<512:=by(have Z:=N;obtain⟨j1,j2,j3,j4,j5,-⟩:=Z;unfold LZ.st;omega)
  rw[Qh W,<- V.2.1];have I:=N.2.2.2.2.2;simp only at I;rw[I.2.1]
  ((conv=>whnf);(repeat((first|refine⟨rfl,?_⟩|refine⟨D1,?_⟩);(try simp(disch:=omega) only[Qn,Qh,Qk,Ql,Qm,Qo,Qq,Qs,Qr,Qp,Qx,Qt,B,F,G,E]);conv=>whnf)))
  refine⟨⟨_,_,true,0,L.st,.wok _,(p3,L.st)⟩,T1,⟨rfl,by simp only;omega,X,rfl,⟨L,rfl,N⟩,.inr (.inr ⟨_,rfl,rfl⟩)⟩,?_⟩;refine LY.mu_lt X hp (.inl ?_);simp only[LY.rk];omega
 case' pos.inr.inl.refine_2.inl=>
  refine JU (x:=⟨b,111,sp⟩) (es:=#[⟨.cell ⟨b,0,none⟩,false,false⟩]) (λ st sm=>K1) K1 rfl λ L p3 k1 k2 X N=>?_
  ((conv=>whnf);(repeat((first|refine⟨rfl,?_⟩|refine⟨D1,?_⟩);(try simp(disch:=omega) only[Qn,Qh,Qk,Ql,Qm,Qo,Qq,Qs,Qr,Qp,Qx,Qt,B,F,G,E]);conv=>whnf)))
  intro a6 P;refine⟨by rw[P.size,T.size],_,P.get,?_⟩;rw[P.ds];clear P T a5
  ((conv=>whnf);(repeat((first|refine⟨rfl,?_⟩|refine⟨D1,?_⟩);(try simp(disch:=omega) only[Qn,Qh,Qk,Ql,Qm,Qo,Qq,Qs,Qr,Qp,Qx,Qt,B,F,G,E]);conv=>whnf)))
  have V:=Jj N rfl;have W:L.st<512:=by(have Z:=N;obtain⟨j1,j2,j3,j4,j5,-⟩:=Z;unfold LZ.st;omega)
  rw[Qh W,<- V.2.1];have I:=N.2.2.2.2.2;simp only at I;rw[I.2.1]
  ((conv=>whnf);(repeat((first|refine⟨rfl,?_⟩|refine⟨D1,?_⟩);(try simp(disch:=omega) only[Qn,Qh,Qk,Ql,Qm,Qo,Qq,Qs,Qr,Qp,Qx,Qt,B,F,G,E]);conv=>whnf)))
  refine⟨⟨_,_,true,0,L.st,.wok _,(p3,L.st)⟩,T1,⟨rfl,by simp only;omega,X,rfl,⟨L,rfl,N⟩,.inr (.inr ⟨_,rfl,rfl⟩)⟩,?_⟩;refine LY.mu_lt X hp (.inl ?_);simp only[LY.rk];omega
 case' pos.inr.inr.false.refine_1.inl=>
  refine JU (x:=⟨b,111,sp⟩) (es:=#[⟨.cell ⟨b,0,none⟩,false,false⟩]) (λ st sm=>K1) K1 rfl λ L p3 k1 k2 X N=>?_
  ((conv=>whnf);(repeat((first|refine⟨rfl,?_⟩|refine⟨D1,?_⟩);(try simp(disch:=omega) only[Qn,Qh,Qk,Ql,Qm,Qo,Qq,Qs,Qr,Qp,Qx,Qt,B,F,G,E]);conv=>whnf)))
  intro a6 P;refine⟨by rw[P.size,T.size],_,P.get,?_⟩;rw[P.ds];clear P T a5
  ((conv=>whnf);(repeat((first|refine⟨rfl,?_⟩|refine⟨D1,?_⟩);(try simp(disch:=omega) only[Qn,Qh,Qk,Ql,Qm,Qo,Qq,Qs,Qr,Qp,Qx,Qt,B,F,G,E]);conv=>whnf)))
  have V:=Jj N rfl;have W:L.st<512:=by(have Z:=N;obtain⟨j1,j2,j3,j4,j5,-⟩:=Z;unfold LZ.st;omega)
  rw[Qh W,<- V.2.1];have I:=N.2.2.2.2.2;simp only at I;rw[I.2.1]
  ((conv=>whnf);(repeat((first|refine⟨rfl,?_⟩|refine⟨D1,?_⟩);(try simp(disch:=omega) only[Qn,Qh,Qk,Ql,Qm,Qo,Qq,Qs,Qr,Qp,Qx,Qt,B,F,G,E]);conv=>whnf)))
  refine⟨⟨_,_,true,0,L.st,.wok _,(p3,L.st)⟩,T1,⟨rfl,by simp only;omega,X,rfl,⟨L,rfl,N⟩,.inr (.inr ⟨_,rfl,rfl⟩)⟩,?_⟩;refine LY.mu_lt X hp (.inl ?_);simp only[LY.rk];omega
 case' pos.inr.inr.false.refine_2.inl=>
  refine JU (x:=⟨b,111,sp⟩) (es:=#[⟨.cell ⟨b,0,none⟩,false,false⟩]) (λ st sm=>K1) K1 rfl λ L p3 k1 k2 X N=>?_
  ((conv=>whnf);(repeat((first|refine⟨rfl,?_⟩|refine⟨D1,?_⟩);(try simp(disch:=omega) only[Qn,Qh,Qk,Ql,Qm,Qo,Qq,Qs,Qr,Qp,Qx,Qt,B,F,G,E]);conv=>whnf)))
  intro a6 P;refine⟨by rw[P.size,T.size],_,P.get,?_⟩;rw[P.ds];clear P T a5
  ((conv=>whnf);(repeat((first|refine⟨rfl,?_⟩|refine⟨D1,?_⟩);(try simp(disch:=omega) only[Qn,Qh,Qk,Ql,Qm,Qo,Qq,Qs,Qr,Qp,Qx,Qt,B,F,G,E]);conv=>whnf)))
  have V:=Jj N rfl;have W:L.st<512:=by(have Z:=N;obtain⟨j1,j2,j3,j4,j5,-⟩:=Z;unfold LZ.st;omega)
  rw[Qh W,<- V.2.1];have I:=N.2.2.2.2.2;simp only at I;rw[I.2.1]
  ((conv=>whnf);(repeat((first|refine⟨rfl,?_⟩|refine⟨D1,?_⟩);(try simp(disch:=omega) only[Qn,Qh,Qk,Ql,Qm,Qo,Qq,Qs,Qr,Qp,Qx,Qt,B,F,G,E]);conv=>whnf)))
  refine⟨⟨_,_,true,0,L.st,.wok _,(p3,L.st)⟩,T1,⟨rfl,by simp only;omega,X,rfl,⟨L,rfl,N⟩,.inr (.inr ⟨_,rfl,rfl⟩)⟩,?_⟩;refine LY.mu_lt X hp (.inl ?_);simp only[LY.rk];omega
 case' pos.inr.inr.true.refine_1.inl=>
  refine JU (x:=⟨b,111,sp⟩) (es:=#[⟨.cell ⟨b,0,none⟩,false,false⟩]) (λ st sm=>K1) K1 rfl λ L p3 k1 k2 X N=>?_
  ((conv=>whnf);(repeat((first|refine⟨rfl,?_⟩|refine⟨D1,?_⟩);(try simp(disch:=omega) only[Qn,Qh,Qk,Ql,Qm,Qo,Qq,Qs,Qr,Qp,Qx,Qt,B,F,G,E]);conv=>whnf)))
  intro a6 P;refine⟨by rw[P.size,T.size],_,P.get,?_⟩;rw[P.ds];clear P T a5
  ((conv=>whnf);(repeat((first|refine⟨rfl,?_⟩|refine⟨D1,?_⟩);(try simp(disch:=omega) only[Qn,Qh,Qk,Ql,Qm,Qo,Qq,Qs,Qr,Qp,Qx,Qt,B,F,G,E]);conv=>whnf)))
  have V:=Jj N rfl;have W:L.st<512:=by(have Z:=N;obtain⟨j1,j2,j3,j4,j5,-⟩:=Z;unfold LZ.st;omega)
  rw[Qh W,<- V.2.1];have I:=N.2.2.2.2.2;simp only at I;rw[I.2.1]
  ((conv=>whnf);(repeat((first|refine⟨rfl,?_⟩|refine⟨D1,?_⟩);(try simp(disch:=omega) only[Qn,Qh,Qk,Ql,Qm,Qo,Qq,Qs,Qr,Qp,Qx,Qt,B,F,G,E]);conv=>whnf)))
  refine⟨⟨_,_,true,0,L.st,.wok _,(p3,L.st)⟩,T1,⟨rfl,by simp only;omega,X,rfl,⟨L,rfl,N⟩,.inr (.inr ⟨_,rfl,rfl⟩)⟩,?_⟩;refine LY.mu_lt X hp (.inl ?_);simp only[LY.rk];omega
 case' pos.inr.inr.true.refine_2.inl=>
  refine JU (x:=⟨b,111,sp⟩) (es:=#[⟨.cell ⟨b,0,none⟩,false,false⟩]) (λ st sm=>K1) K1 rfl λ L p3 k1 k2 X N=>?_
  ((conv=>whnf);(repeat((first|refine⟨rfl,?_⟩|refine⟨D1,?_⟩);(try simp(disch:=omega) only[Qn,Qh,Qk,Ql,Qm,Qo,Qq,Qs,Qr,Qp,Qx,Qt,B,F,G,E]);conv=>whnf)))
  intro a6 P;refine⟨by rw[P.size,T.size],_,P.get,?_⟩;rw[P.ds];clear P T a5
  ((conv=>whnf);(repeat((first|refine⟨rfl,?_⟩|refine⟨D1,?_⟩);(try simp(disch:=omega) only[Qn,Qh,Qk,Ql,Qm,Qo,Qq,Qs,Qr,Qp,Qx,Qt,B,F,G,E]);conv=>whnf)))
  have V:=Jj N rfl;have W:L.st<512:=by(have Z:=N;obtain⟨j1,j2,j3,j4,j5,-⟩:=Z;unfold LZ.st;omega)
  rw[Qh W,<- V.2.1];have I:=N.2.2.2.2.2;simp only at I;rw[I.2.1]
  ((conv=>whnf);(repeat((first|refine⟨rfl,?_⟩|refine⟨D1,?_⟩);(try simp(disch:=omega) only[Qn,Qh,Qk,Ql,Qm,Qo,Qq,Qs,Qr,Qp,Qx,Qt,B,F,G,E]);conv=>whnf)))
  refine⟨⟨_,_,true,0,L.st,.wok _,(p3,L.st)⟩,T1,⟨rfl,by simp only;omega,X,rfl,⟨L,rfl,N⟩,.inr (.inr ⟨_,rfl,rfl⟩)⟩,?_⟩;refine LY.mu_lt X hp (.inl ?_);simp only[LY.rk];omega
 all_goals refine ME (x:=⟨b,111,sp⟩) (es:=#[⟨.cell ⟨b,0,none⟩,false,false⟩]) (λ st sm=>K1) K1 rfl λ L p3 X N=>?_
 all_goals((conv=>whnf);(repeat((first|refine⟨rfl,?_⟩|refine⟨D1,?_⟩);(try simp(disch:=omega) only[Qn,Qh,Qk,Ql,Qm,Qo,Qq,Qs,Qr,Qp,Qx,Qt,B,F,G,E]);conv=>whnf)))
 all_goals intro a6 P
 all_goals refine⟨by rw[P.size,T.size],_,P.get,?_⟩
 all_goals rw[P.ds]
 all_goals clear P T a5
 all_goals((conv=>whnf);(repeat((first|refine⟨rfl,?_⟩|refine⟨D1,?_⟩);(try simp(disch:=omega) only[Qn,Qh,Qk,Ql,Qm,Qo,Qq,Qs,Qr,Qp,Qx,Qt,B,F,G,E]);conv=>whnf)))
 all_goals(have V:=Jj N rfl;have W:L.st<512:=by(have Z:=N;obtain⟨j1,j2,j3,j4,j5,-⟩:=Z;unfold LZ.st;omega))
 all_goals rw[Qh W,<- V.2.1]
 all_goals have I:=N.2.2.2.2.2
 all_goals simp only at I
 all_goals rw[I.2.2.1]
 all_goals have B:L.st % 4=0:=O1
 all_goals have E:L.st / 8=L.n:=O1
 all_goals((conv=>whnf);(repeat((first|refine⟨rfl,?_⟩|refine⟨D1,?_⟩);(try simp(disch:=omega) only[Qn,Qh,Qk,Ql,Qm,Qo,Qq,Qs,Qr,Qp,Qx,Qt,B,F,G,E]);conv=>whnf)))
 all_goals refine Qe (λ hc=>absurd (beq_iff_eq.1 hc) O1) (λ hc=>?_)
 all_goals((conv=>whnf);(repeat((first|refine⟨rfl,?_⟩|refine⟨D1,?_⟩);(try simp(disch:=omega) only[Qn,Qh,Qk,Ql,Qm,Qo,Qq,Qs,Qr,Qp,Qx,Qt,B,F,G,E]);conv=>whnf)))
 all_goals try refine Jb (λ am=>?_) (λ am=>?_)
 all_goals((conv=>whnf);(repeat((first|refine⟨rfl,?_⟩|refine⟨D1,?_⟩);(try simp(disch:=omega) only[Qn,Qh,Qk,Ql,Qm,Qo,Qq,Qs,Qr,Qp,Qx,Qt,B,F,G,E]);conv=>whnf)))
 all_goals try refine Qe (λ ah=>?_) (λ ah=>?_)
 all_goals((conv=>whnf);(repeat((first|refine⟨rfl,?_⟩|refine⟨D1,?_⟩);(try simp(disch:=omega) only[Qn,Qh,Qk,Ql,Qm,Qo,Qq,Qs,Qr,Qp,Qx,Qt,B,F,G,E]);conv=>whnf)))
 all_goals intro a7 ae
 all_goals refine Zf _ ae RZ ?_
 all_goals((conv=>whnf);(repeat((first|refine⟨rfl,?_⟩|refine⟨D1,?_⟩);(try simp(disch:=omega) only[Qn,Qh,Qk,Ql,Qm,Qo,Qq,Qs,Qr,Qp,Qx,Qt,B,F,G,E]);conv=>whnf)))
 all_goals first
  |refine O4 (x:=⟨b,111,sp⟩) (δ:=-7) Yf rfl rfl rfl rfl λ z4 p4 j1 j2 _=>?_
  |refine O4 (x:=⟨b,111,sp⟩) (δ:=-11) Yf rfl rfl rfl rfl λ z4 p4 j1 j2 _=>?_
 all_goals obtain⟨l4,w4,s4,n4,f4⟩:=z4
 all_goals obtain⟨-,-,-,-,jn,j3,j4,j5,j6,j7⟩:=j2
 all_goals simp only at jn j3 j4 j5 j6 j7
 all_goals subst j3 j4 j5
 all_goals obtain⟨m4,rfl⟩:∃m,n4=m+1:=⟨n4-1,O1⟩
 all_goals first
  |refine⟨.got,⟨1,0,1,m4,f4⟩,.tak rfl rfl (.inr ⟨rfl,(by have:=beq_eq_false_iff_ne.1 ah;omega)⟩),(by rw[show(((LZ.st ⟨0,0,1,m4+1,f4⟩:Nat):Int)+(-7))=((LZ.st ⟨1,0,1,m4,f4⟩:Nat):Int) by(unfold LZ.st;simp only;omega)];exact PT (by unfold LZ.st;simp only;omega)),rfl,rfl,rfl,?_⟩
  |refine⟨.got,⟨1,0,0,m4,f4⟩,.tak rfl rfl (.inl rfl),(by rw[show(((LZ.st ⟨0,0,1,m4+1,f4⟩:Nat):Int)+(-11))=((LZ.st ⟨1,0,0,m4,f4⟩:Nat):Int) by(unfold LZ.st;simp only;omega)];exact PT (by unfold LZ.st;simp only;omega)),rfl,rfl,rfl,?_⟩
 all_goals((conv=>whnf);(repeat((first|refine⟨rfl,?_⟩|refine⟨D1,?_⟩);(try simp(disch:=omega) only[Qn,Qh,Qk,Ql,Qm,Qo,Qq,Qs,Qr,Qp,Qx,Qt,B,F,G,E]);conv=>whnf)))
 all_goals intro a8 H8
 all_goals refine⟨by rw[H8.size,ae.size],_,H8.get,?_⟩
 all_goals rw[H8.ds]
 all_goals clear H8 ae a7
 all_goals((conv=>whnf);(repeat((first|refine⟨rfl,?_⟩|refine⟨D1,?_⟩);(try simp(disch:=omega) only[Qn,Qh,Qk,Ql,Qm,Qo,Qq,Qs,Qr,Qp,Qx,Qt,B,F,G,E]);conv=>whnf)))
 all_goals intro b1 af
 all_goals refine Zf _ af G_ ?_
 all_goals((conv=>whnf);(repeat((first|refine⟨rfl,?_⟩|refine⟨D1,?_⟩);(try simp(disch:=omega) only[Qn,Qh,Qk,Ql,Qm,Qo,Qq,Qs,Qr,Qp,Qx,Qt,B,F,G,E]);conv=>whnf)))
 all_goals refine Xx (x:=⟨b,111,sp⟩) (m:=.enable) (d':=0) (.inr rfl) J8 rfl rfl rfl ?_
 all_goals((conv=>whnf);(repeat((first|refine⟨rfl,?_⟩|refine⟨D1,?_⟩);(try simp(disch:=omega) only[Qn,Qh,Qk,Ql,Qm,Qo,Qq,Qs,Qr,Qp,Qx,Qt,B,F,G,E]);conv=>whnf)))
 all_goals intro b2 G2
 all_goals refine⟨by rw[G2.size,af.size],_,G2.get,?_⟩
 all_goals rw[G2.ds]
 all_goals clear G2 af b1
 all_goals((conv=>whnf);(repeat((first|refine⟨rfl,?_⟩|refine⟨D1,?_⟩);(try simp(disch:=omega) only[Qn,Qh,Qk,Ql,Qm,Qo,Qq,Qs,Qr,Qp,Qx,Qt,B,F,G,E]);conv=>whnf)))
 all_goals intro b3 ai
 all_goals refine Zf _ ai P0 ?_
 all_goals((conv=>whnf);(repeat((first|refine⟨rfl,?_⟩|refine⟨D1,?_⟩);(try simp(disch:=omega) only[Qn,Qh,Qk,Ql,Qm,Qo,Qq,Qs,Qr,Qp,Qx,Qt,B,F,G,E]);conv=>whnf)))
 all_goals refine XY (x:=⟨b,111,sp⟩) (bs:=[(b,false),(b,false)]) (v:=.pointer (some ⟨b,0,none⟩)) (λ st sm=>K1) Z9 (Wr _ _) rfl ?_
 all_goals((conv=>whnf);(repeat((first|refine⟨rfl,?_⟩|refine⟨D1,?_⟩);(try simp(disch:=omega) only[Qn,Qh,Qk,Ql,Qm,Qo,Qq,Qs,Qr,Qp,Qx,Qt,B,F,G,E]);conv=>whnf)))
 all_goals refine Gp (x:=⟨b,111,sp⟩) Ha rfl rfl rfl λ R M g1 g2=>?_
 all_goals((conv=>whnf);(repeat((first|refine⟨rfl,?_⟩|refine⟨D1,?_⟩);(try simp(disch:=omega) only[Qn,Qh,Qk,Ql,Qm,Qo,Qq,Qs,Qr,Qp,Qx,Qt,B,F,G,E]);conv=>whnf)))
 all_goals intro b4 G4
 all_goals refine⟨by rw[G4.size,ai.size],_,G4.get,?_⟩
 all_goals rw[G4.ds]
 all_goals((conv=>whnf);(repeat((first|refine⟨rfl,?_⟩|refine⟨D1,?_⟩);(try simp(disch:=omega) only[Qn,Qh,Qk,Ql,Qm,Qo,Qq,Qs,Qr,Qp,Qx,Qt,B,F,G,E]);conv=>whnf)))
 all_goals exact Z R M _ g1 g2
end Go.Proofs
namespace Go.TM
variable{T:Type}{P:Program}{S:Sys P T}
def X4.of{g:FuncId}{N:Nat}{cc:C}(k:Zg P g N cc [])(hm:P.follows .mixedOrders=true){args:List Value}(hn:args.length<=N){U:Qa T}{Q:Qa T->Prop}
  (h:JL S g none cc (λ _ ds U=>ds=[]/\Q U) (λ _ _ _ _=>False) (λ _ ds U=>ds=[]/\Q U) (fm args) [] U):X4 S g args.toArray Q U:=by
 obtain⟨fd,mu,dets,X,hb,hc,rfl,M,-⟩:=k.ok;intro Stop m f cs F hq
 let b:Frame:={ (default:Frame)with fn:=g,kind:=.deferred }
 have E:Rf (Frame.enter P g args.toArray .deferred) (f::cs)=R b { tmps:=args.toArray++Array.replicate (fd.ntmps-args.toArray.size) undef,defers:=[] } [.code (fd.body.getD .skip)] (f::cs):=by
  simp only[Rf,R,Frame.enter,fr,X,b,Option.bind_some];rw[hb];rfl
 rw[E]
 have L:FR fd.ntmps { tmps:=args.toArray++Array.replicate (fd.ntmps-args.toArray.size) undef,defers:=[] } (fm args) []:=by
  refine⟨rfl,S3,λ t=>?_⟩;simp only[fm,Array.getD_eq_getD_getElem?,getD_eq_getElem?_getD,Array.getElem?_append,size_toArray,getElem?_toArray];split
  .rfl
  .rename_i hlt;rw[getElem?_eq_none O1,Array.getElem?_replicate];split <;> rfl
 subst hc
 have Z:fd.results=#[]:=by
  cases Y:fd.results.toList with
  |nil=>exact Array.toList_eq_nil_iff.1 Y
  |cons x l=>rw[Y]at M;simp[mapM_cons,Option.bind_eq_some_iff]at M
 have fin:∀(a':Act)(f':Fm)(B:List Deferred)(U':Qa T),FR fd.ntmps a' f' B->B=[]->Q U'->∀todo,J S Stop m (Rf { fr b a' todo with mode:=.returning } (f::cs)) U':=by
  intro a' f' B U' z K hQ todo;obtain⟨W,dd⟩:=a';have I:dd=[]:=z.ds.trans K;subst I;have h:=Ge (P:=P) (Q:=λ _ U'=>Q U') M [] U' (show Xr f' (λ _ U'=>Q U') [] [] U' from hQ) W z.get;refine .sem _ rfl h λ w x w' es H _=>⟨Rf f cs,seen P b.fn es,?_,Jk P _ es,λ U' q=>hq U' q⟩;obtain⟨V,he⟩:Sem.run P (results fd W) w=.ok x w'/\Sem.events P (results fd W) w #[]=es:=by simpa using H
  have z:P.funcs[b.fn]?=some fd:=X;have hk:b.kind=.deferred:=rfl;obtain⟨cf,ct,aa,cd,cm,ck,cr⟩:=f;simp only at F;subst F;simp[Rf,stepG,unwind,fr,z,V,he,doReturn,hk,GStep.after]
 refine J.body (fn:=g) ⟨rfl,rfl,by simp[b],S1⟩ (He hm _ L h) λ e a' U' q=>?_;obtain⟨f',B,z,G⟩:=q;cases e with
 |normal=>exact⟨.inl rfl,fin a' f' B U' z G.1 G.2⟩
 |ret=>exact⟨.inr rfl,fin a' f' B U' z G.1 G.2⟩
 |exit id=>exact G.elim
end Go.TM
namespace Go.Proofs
open Go.TM
variable{b bb s:Nat}{D:TM.Spec}{sp:(Nat->Bool)->TM.Spec}{lo:Nat×Nat}{U:Qa Tk}{Q:Value->Qa Tk->Prop}
def Rp(X:U.tok=⟨0,.wrk bb D,some (.lok ⟨b,111,sp⟩ s .idle lo)⟩)(K:Ko b bb D sp s (Q (.tuple #[])) U):Qb Zs 90 #[.pointer (some ⟨b,0,none⟩)] Q U:=by
 refine Qb.of (args:=[_]) DM Qd S1 ?_
 conv=>whnf
 intro a1 e;refine Zf _ e C6 ?_
 ((conv=>whnf);(repeat((first|refine⟨rfl,?_⟩|refine⟨D1,?_⟩);conv=>whnf)))
 refine Xx (x:=⟨b,111,sp⟩) (m:=.disable) (d':=1) (.inl rfl) VH rfl X rfl ?_
 ((conv=>whnf);(repeat((first|refine⟨rfl,?_⟩|refine⟨D1,?_⟩);conv=>whnf)))
 intro a2 f;refine⟨by rw[f.size,e.size],_,f.get,?_⟩;rw[f.ds];clear f e a1
 ((conv=>whnf);(repeat((first|refine⟨rfl,?_⟩|refine⟨D1,?_⟩);conv=>whnf)))
 intro a1 e;refine Zf _ e C7 ?_
 ((conv=>whnf);(repeat((first|refine⟨rfl,?_⟩|refine⟨D1,?_⟩);conv=>whnf)))
 refine VZ (x:=⟨b,111,sp⟩) (w:=0) (n:=1) VG (VT b) rfl rfl rfl rfl rfl (λ z L V W H I=>?_) (λ z L V W H I Z=>?_)
 .obtain⟨l2,w2,s2,n2,f2⟩:=z;obtain⟨N,P,S,T⟩:=Jj H I;simp only at N P S T;refine⟨.got,⟨1,w2,s2,n2,f2⟩,.take O1 O1,(by unfold LZ.st;simp only;omega),rfl,rfl,rfl,?_⟩
  ((conv=>whnf);(repeat((first|refine⟨rfl,?_⟩|refine⟨D1,?_⟩);conv=>whnf)))
  intro a2 f;refine⟨by rw[f.size,e.size],_,f.get,?_⟩;rw[f.ds];clear f e a1
  ((conv=>whnf);(repeat((first|refine⟨rfl,?_⟩|refine⟨D1,?_⟩);conv=>whnf)))
  intro a1 e;refine Zf _ e C8 ?_
  ((conv=>whnf);(repeat((first|refine⟨rfl,?_⟩|refine⟨D1,?_⟩);conv=>whnf)))
  refine Xx (x:=⟨b,111,sp⟩) (m:=.enable) (d':=0) (.inr rfl) J8 rfl rfl rfl ?_
  ((conv=>whnf);(repeat((first|refine⟨rfl,?_⟩|refine⟨D1,?_⟩);conv=>whnf)))
  intro a2 f;refine⟨by rw[f.size,e.size],_,f.get,?_⟩;rw[f.ds];clear f e a1
  ((conv=>whnf);(repeat((first|refine⟨rfl,?_⟩|refine⟨D1,?_⟩);conv=>whnf)))
  intro a3 B;refine Zf _ B C9 ?_
  ((conv=>whnf);(repeat((first|refine⟨rfl,?_⟩|refine⟨D1,?_⟩);conv=>whnf)))
  refine XY (x:=⟨b,111,sp⟩) (bs:=[(b,false),(b,false)]) (v:=.pointer (some ⟨b,0,none⟩)) (λ st sm=>K1) Z9 (Wr _ _) rfl ?_
  ((conv=>whnf);(repeat((first|refine⟨rfl,?_⟩|refine⟨D1,?_⟩);conv=>whnf)))
  refine Gp (x:=⟨b,111,sp⟩) Ha rfl rfl rfl λ R M F G=>?_
  ((conv=>whnf);(repeat((first|refine⟨rfl,?_⟩|refine⟨D1,?_⟩);conv=>whnf)))
  intro a4 E;refine⟨by rw[E.size,B.size],_,E.get,?_⟩;rw[E.ds]
  ((conv=>whnf);(repeat((first|refine⟨rfl,?_⟩|refine⟨D1,?_⟩);conv=>whnf)))
  exact K R M _ F G
 ·((conv=>whnf);(repeat((first|refine⟨rfl,?_⟩|refine⟨D1,?_⟩);conv=>whnf)))
  intro a2 f;refine⟨by rw[f.size,e.size],_,f.get,?_⟩;rw[f.ds];clear f e a1;refine⟨UT.any,(Aj (U:=(U.lk 1 bb D ⟨b,111,sp⟩ s .idle lo).lk 1 bb D ⟨b,111,sp⟩ s .idle (L,z.st)) (Q:=λ v U'=>v=.tuple #[]/\Q (.tuple #[]) U') rfl λ R M lo F G=>⟨rfl,K R M lo F G⟩).mono ?_⟩;rintro v U'⟨rfl,Y⟩-
  ((conv=>whnf);(repeat((first|refine⟨rfl,?_⟩|refine⟨D1,?_⟩);conv=>whnf)))
  exact Y
def Cf(z:U.tok=⟨0,.wrk bb D,some (.lok ⟨b,111,sp⟩ s .idle lo)⟩)(w:Ko b bb D sp s (Q (.tuple #[])) U):Qb Zs 65 #[.pointer (some ⟨b,0,none⟩)] Q U:=by
 refine Qb.of (args:=[_]) La Qd S1 ?_;refine⟨DM.any,(Rp (Q:=λ v U'=>v=.tuple #[]/\Q (.tuple #[]) U') z λ R M lo e f=>⟨rfl,w R M lo e f⟩).mono ?_⟩;rintro v U'⟨rfl,B⟩-
 ((conv=>whnf);(repeat((first|refine⟨rfl,?_⟩|refine⟨D1,?_⟩);conv=>whnf)))
 exact B
def GW(me:LP)(w:Nat):Prop:=(me=.unl/\w % 8=0/\0<w / 8)\/(me=.fin/\(w % 8≠0\/w / 8=0))
def Rs{me:LP}{w p:Nat}(Y:U.tok=⟨1,.wrk bb D,some (.lok ⟨b,111,sp⟩ s me (p,w))⟩)(N:w<511)(Z:w % 2=0)(L:p<=PB 20)(G:(w / 4 % 2=0/\GW me w)\/(w / 4 % 2=1/\me=.uls))
  (M:∀lo,Q (.tuple #[]) (U.lk 1 bb D ⟨b,111,sp⟩ s .fin lo)):Qb Zs 124 #[.pointer (some ⟨b,0,none⟩),QB w] Q U:=by
 refine Qb.of (args:=[_,_]) UU Qd S1 ?_
 (conv=>whnf);(repeat((first|refine⟨rfl,?_⟩|refine⟨D1,?_⟩);(try simp(disch:=omega) only[Qn,Qh,Qk,Ql,Qm,Qo,Qq,Qs,Qr,Qp,Z3,Z4,Qt]);conv=>whnf))
 refine Qe (λ F=>absurd (beq_iff_eq.1 F) O1) (λ F=>?_)
 (conv=>whnf);(repeat((first|refine⟨rfl,?_⟩|refine⟨D1,?_⟩);(try simp(disch:=omega) only[Qn,Qh,Qk,Ql,Qm,Qo,Qq,Qs,Qr,Qp,Z3,Z4,Qt]);conv=>whnf))
 apply Qe<;>intro F
 .have hc4:=beq_iff_eq.1 F
  have H:GW me w:=by
   rcases G with h|h
   .exact h.2
   .omega
  refine⟨LP×Nat×Nat,λ y=>[(0,.pointer (some ⟨b,0,none⟩)),(4,QB y.2.2)],λ y U'=>U'=U.lk 1 bb D ⟨b,111,sp⟩ s y.1 y.2/\y.2.1<=PB 20/\y.2.2<511/\GW y.1 y.2.2,λ y=>PB 20-y.2.1,(me,p,w),T1,⟨(Qa.lk_self Y).symm,L,N,H⟩,?_⟩;clear F hc4 H G L N Z Y;rintro⟨me,p,w⟩f U'⟨rfl,L,N,H⟩;simp only at L N H
  (conv=>whnf);(repeat((first|refine⟨rfl,?_⟩|refine⟨D1,?_⟩);(try simp(disch:=omega) only[Qn,Qh,Qk,Ql,Qm,Qo,Qq,Qs,Qr,Qp,Z3,Z4,Qt]);conv=>whnf))
  rcases H with⟨rfl,h8,hn⟩|⟨rfl,h8⟩
  .refine Jb (λ F=>?_) (λ F=>absurd (beq_iff_eq.1 F) O1)
   (conv=>whnf);(repeat((first|refine⟨rfl,?_⟩|refine⟨D1,?_⟩);(try simp(disch:=omega) only[Qn,Qh,Qk,Ql,Qm,Qo,Qq,Qs,Qr,Qp,Z3,Z4,Qt]);conv=>whnf))
   refine Qe (λ F=>absurd (bne_iff_ne.1 F) O1) (λ F=>?_)
   (conv=>whnf);(repeat((first|refine⟨rfl,?_⟩|refine⟨D1,?_⟩);(try simp(disch:=omega) only[Qn,Qh,Qk,Ql,Qm,Qo,Qq,Qs,Qr,Qp,Z3,Z4,Qt]);conv=>whnf))
   intro a1 B;refine Zf _ B AI ?_
   (conv=>whnf);(repeat((first|refine⟨rfl,?_⟩|refine⟨D1,?_⟩);(try simp(disch:=omega) only[Qn,Qh,Qk,Ql,Qm,Qo,Qq,Qs,Qr,Qp,Z3,Z4,Qt]);conv=>whnf))
   refine VZ (x:=⟨b,111,sp⟩) (w:=w) VG (VT b) rfl rfl rfl rfl rfl (λ z p2 h1 W h3 K=>?_) (λ z p2 h1 W h3 K h5=>?_)
   .obtain⟨l2,w2,s2,n2,f2⟩:=z;obtain⟨P,S,T,V⟩:=Jj h3 K;simp only at P S T V;obtain⟨m2,rfl⟩:∃m,n2=m+1:=⟨n2-1,O1⟩;refine⟨.unl2,⟨l2,1,s2,m2,f2⟩,.wake O1 O1 O1,(by rw[<- K];unfold LZ.st;simp only;omega),rfl,rfl,rfl,?_⟩
    (conv=>whnf);(repeat((first|refine⟨rfl,?_⟩|refine⟨D1,?_⟩);(try simp(disch:=omega) only[Qn,Qh,Qk,Ql,Qm,Qo,Qq,Qs,Qr,Qp,Z3,Z4,Qt]);conv=>whnf))
    intro a2 E;refine⟨by rw[E.size,B.size],_,E.get,?_⟩;rw[E.ds];clear E B a1
    (conv=>whnf);(repeat((first|refine⟨rfl,?_⟩|refine⟨D1,?_⟩);(try simp(disch:=omega) only[Qn,Qh,Qk,Ql,Qm,Qo,Qq,Qs,Qr,Qp,Z3,Z4,Qt]);conv=>whnf))
    intro a1 B;refine Zf _ B AJ ?_
    (conv=>whnf);(repeat((first|refine⟨rfl,?_⟩|refine⟨D1,?_⟩);(try simp(disch:=omega) only[Qn,Qh,Qk,Ql,Qm,Qo,Qq,Qs,Qr,Qp,Z3,Z4,Qt]);conv=>whnf))
    refine OS (x:=⟨b,111,sp⟩) (ps:=[_,_]) UH rfl rfl rfl (.inl rfl) λ lo=>?_
    (conv=>whnf);(repeat((first|refine⟨rfl,?_⟩|refine⟨D1,?_⟩);(try simp(disch:=omega) only[Qn,Qh,Qk,Ql,Qm,Qo,Qq,Qs,Qr,Qp,Z3,Z4,Qt]);conv=>whnf))
    intro a2 E;refine⟨by rw[E.size,B.size],_,E.get,?_⟩;rw[E.ds];clear E B a1
    (conv=>whnf);(repeat((first|refine⟨rfl,?_⟩|refine⟨D1,?_⟩);(try simp(disch:=omega) only[Qn,Qh,Qk,Ql,Qm,Qo,Qq,Qs,Qr,Qp,Z3,Z4,Qt]);conv=>whnf))
    exact M _
   ·(conv=>whnf);(repeat((first|refine⟨rfl,?_⟩|refine⟨D1,?_⟩);(try simp(disch:=omega) only[Qn,Qh,Qk,Ql,Qm,Qo,Qq,Qs,Qr,Qp,Z3,Z4,Qt]);conv=>whnf))
    intro a2 E;refine⟨by rw[E.size,B.size],_,E.get,?_⟩;rw[E.ds];clear E B a1
    (conv=>whnf);(repeat((first|refine⟨rfl,?_⟩|refine⟨D1,?_⟩);(try simp(disch:=omega) only[Qn,Qh,Qk,Ql,Qm,Qo,Qq,Qs,Qr,Qp,Z3,Z4,Qt]);conv=>whnf))
    intro a1 B;refine Zf _ B AK ?_
    (conv=>whnf);(repeat((first|refine⟨rfl,?_⟩|refine⟨D1,?_⟩);(try simp(disch:=omega) only[Qn,Qh,Qk,Ql,Qm,Qo,Qq,Qs,Qr,Qp,Z3,Z4,Qt]);conv=>whnf))
    refine MF (x:=⟨b,111,sp⟩) (es:=#[⟨.cell ⟨b,0,none⟩,false,false⟩]) (λ z=>if z.st % 8=0/\0<z.st / 8 then .unl else .fin) (λ st sm=>K1) K1 rfl (λ z hz=>?_) λ I p3 k1 k3 k4=>?_
    .obtain⟨P,S,T,V⟩:=Jj hz rfl;obtain⟨l2,w2,s2,n2,f2⟩:=z;simp only at P S T V;split
     .exact⟨.stay,rfl,rfl⟩
     .exact⟨.leave O1,rfl,rfl⟩
    ·(conv=>whnf);(repeat((first|refine⟨rfl,?_⟩|refine⟨D1,?_⟩);(try simp(disch:=omega) only[Qn,Qh,Qk,Ql,Qm,Qo,Qq,Qs,Qr,Qp,Z3,Z4,Qt]);conv=>whnf))
     intro a2 E;refine⟨by rw[E.size,B.size],_,E.get,?_⟩;rw[E.ds];clear E B a1
     conv=>whnf
     have X:=k4;obtain⟨j1,j2,j3,j4,j5,-⟩:=X;simp only at h1 W k1;refine⟨rfl,(_,p3,I.st),T1,⟨rfl,k3,by(show I.st<511;unfold LZ.st;omega),?_⟩,?_⟩
     .show GW (if I.st % 8=0/\0<I.st / 8 then .unl else .fin) I.st;split
      .rename_i h;exact .inl ⟨rfl,h⟩
      .rename_i h;exact .inr ⟨rfl,O1⟩
     .have hne:p≠p2:=λ e=>h5 (W e).symm;show PB 20-p3<PB 20-p;omega
  .apply Jb<;>intro F
   .have hc':=beq_eq_false_iff_ne.1 F
    (conv=>whnf);(repeat((first|refine⟨rfl,?_⟩|refine⟨D1,?_⟩);(try simp(disch:=omega) only[Qn,Qh,Qk,Ql,Qm,Qo,Qq,Qs,Qr,Qp,Z3,Z4,Qt]);conv=>whnf))
    refine Qe (λ F=>?_) (λ F=>absurd (bne_eq_false_iff_eq.1 F) O1)
    (conv=>whnf);(repeat((first|refine⟨rfl,?_⟩|refine⟨D1,?_⟩);(try simp(disch:=omega) only[Qn,Qh,Qk,Ql,Qm,Qo,Qq,Qs,Qr,Qp,Z3,Z4,Qt]);conv=>whnf))
    exact M _
   ·(conv=>whnf);(repeat((first|refine⟨rfl,?_⟩|refine⟨D1,?_⟩);(try simp(disch:=omega) only[Qn,Qh,Qk,Ql,Qm,Qo,Qq,Qs,Qr,Qp,Z3,Z4,Qt]);conv=>whnf))
    exact M _
 .have hc4:=beq_eq_false_iff_ne.1 F
  obtain⟨K,rfl⟩:w / 4 % 2=1/\me=.uls:=by
   rcases G with h|h
   .omega
   .exact h
  (conv=>whnf);(repeat((first|refine⟨rfl,?_⟩|refine⟨D1,?_⟩);(try simp(disch:=omega) only[Qn,Qh,Qk,Ql,Qm,Qo,Qq,Qs,Qr,Qp,Z3,Z4,Qt]);conv=>whnf))
  intro a1 B;refine Zf _ B AL ?_
  (conv=>whnf);(repeat((first|refine⟨rfl,?_⟩|refine⟨D1,?_⟩);(try simp(disch:=omega) only[Qn,Qh,Qk,Ql,Qm,Qo,Qq,Qs,Qr,Qp,Z3,Z4,Qt]);conv=>whnf))
  refine OS (x:=⟨b,111,sp⟩) (ps:=[_,_]) UH rfl rfl Y (.inr rfl) λ lo=>?_
  (conv=>whnf);(repeat((first|refine⟨rfl,?_⟩|refine⟨D1,?_⟩);(try simp(disch:=omega) only[Qn,Qh,Qk,Ql,Qm,Qo,Qq,Qs,Qr,Qp,Z3,Z4,Qt]);conv=>whnf))
  intro a2 E;refine⟨by rw[E.size,B.size],_,E.get,?_⟩;rw[E.ds];clear E B a1
  (conv=>whnf);(repeat((first|refine⟨rfl,?_⟩|refine⟨D1,?_⟩);(try simp(disch:=omega) only[Qn,Qh,Qk,Ql,Qm,Qo,Qq,Qs,Qr,Qp,Z3,Z4,Qt]);conv=>whnf))
  exact M _
def NW{R:Nat->Bool}{M₁ M₂:List Q2}(ht:U.tok=⟨0,.wrk bb D,some (.lok ⟨b,111,sp⟩ s (.own R) lo)⟩)(hM:U.M=M₁++M₂)(hD:sp (Q9 R s true) M₁)
  (X:∀lo,Q (.tuple #[]) { U with M:=M₂,tok:=⟨0,.wrk bb D,some (.lok ⟨b,111,sp⟩ s .fin lo)⟩ }):Qb Zs 91 #[.pointer (some ⟨b,0,none⟩)] Q U:=by
 refine Qb.of (args:=[_]) DN Qd S1 ?_
 (conv=>whnf);(repeat((first|refine⟨rfl,?_⟩|refine⟨D1,?_⟩);(try simp(disch:=omega) only[Qn,Qh,Qk,Ql,Qm,Qo,Qq,Qs,Qr,Qp,Z3,Z4,Qt]);conv=>whnf))
 intro a1 f;refine Zf _ f Ca ?_
 (conv=>whnf);(repeat((first|refine⟨rfl,?_⟩|refine⟨D1,?_⟩);(try simp(disch:=omega) only[Qn,Qh,Qk,Ql,Qm,Qo,Qq,Qs,Qr,Qp,Z3,Z4,Qt]);conv=>whnf))
 refine JU (x:=⟨b,111,sp⟩) (es:=#[⟨.cell ⟨b,0,none⟩,false,false⟩]) (λ st sm=>K1) K1 ht λ z p q1 q2 q3 q4=>?_
 (conv=>whnf);(repeat((first|refine⟨rfl,?_⟩|refine⟨D1,?_⟩);(try simp(disch:=omega) only[Qn,Qh,Qk,Ql,Qm,Qo,Qq,Qs,Qr,Qp,Z3,Z4,Qt]);conv=>whnf))
 intro a2 w;refine⟨by rw[w.size,f.size],_,w.get,?_⟩;rw[w.ds];clear w f a1
 (conv=>whnf);(repeat((first|refine⟨rfl,?_⟩|refine⟨D1,?_⟩);(try simp(disch:=omega) only[Qn,Qh,Qk,Ql,Qm,Qo,Qq,Qs,Qr,Qp,Z3,Z4,Qt]);conv=>whnf))
 intro a1 f;refine Zf _ f Cb ?_
 (conv=>whnf);(repeat((first|refine⟨rfl,?_⟩|refine⟨D1,?_⟩);(try simp(disch:=omega) only[Qn,Qh,Qk,Ql,Qm,Qo,Qq,Qs,Qr,Qp,Z3,Z4,Qt]);conv=>whnf))
 refine XY (x:=⟨b,111,sp⟩) (bs:=[(b,false),(b,false)]) (v:=.pointer (some ⟨b,0,none⟩)) (λ st sm=>K1) Z9 (Wr _ _) rfl ?_
 (conv=>whnf);(repeat((first|refine⟨rfl,?_⟩|refine⟨D1,?_⟩);(try simp(disch:=omega) only[Qn,Qh,Qk,Ql,Qm,Qo,Qq,Qs,Qr,Qp,Z3,Z4,Qt]);conv=>whnf))
 refine L_ (x:=⟨b,111,sp⟩) (M₁:=M₁) (M₂:=M₂) Fo rfl rfl rfl hM hD ?_
 (conv=>whnf);(repeat((first|refine⟨rfl,?_⟩|refine⟨D1,?_⟩);(try simp(disch:=omega) only[Qn,Qh,Qk,Ql,Qm,Qo,Qq,Qs,Qr,Qp,Z3,Z4,Qt]);conv=>whnf))
 intro a2 w;refine⟨by rw[w.size,f.size],_,w.get,?_⟩;rw[w.ds];clear w f a1
 (conv=>whnf);(repeat((first|refine⟨rfl,?_⟩|refine⟨D1,?_⟩);(try simp(disch:=omega) only[Qn,Qh,Qk,Ql,Qm,Qo,Qq,Qs,Qr,Qp,Z3,Z4,Qt]);conv=>whnf))
 intro a1 f;refine Zf _ f Cc ?_
 (conv=>whnf);(repeat((first|refine⟨rfl,?_⟩|refine⟨D1,?_⟩);(try simp(disch:=omega) only[Qn,Qh,Qk,Ql,Qm,Qo,Qq,Qs,Qr,Qp,Z3,Z4,Qt]);conv=>whnf))
 refine Xx (x:=⟨b,111,sp⟩) (m:=.disable) (d':=1) (.inl rfl) VH rfl rfl rfl ?_
 (conv=>whnf);(repeat((first|refine⟨rfl,?_⟩|refine⟨D1,?_⟩);(try simp(disch:=omega) only[Qn,Qh,Qk,Ql,Qm,Qo,Qq,Qs,Qr,Qp,Z3,Z4,Qt]);conv=>whnf))
 intro a2 w;refine⟨by rw[w.size,f.size],_,w.get,?_⟩;rw[w.ds];clear w f a1
 (conv=>whnf);(repeat((first|refine⟨rfl,?_⟩|refine⟨D1,?_⟩);(try simp(disch:=omega) only[Qn,Qh,Qk,Ql,Qm,Qo,Qq,Qs,Qr,Qp,Z3,Z4,Qt]);conv=>whnf))
 intro a1 f;refine Zf _ f Cd ?_
 (conv=>whnf);(repeat((first|refine⟨rfl,?_⟩|refine⟨D1,?_⟩);(try simp(disch:=omega) only[Qn,Qh,Qk,Ql,Qm,Qo,Qq,Qs,Qr,Qp,Z3,Z4,Qt]);conv=>whnf))
 refine O4 (x:=⟨b,111,sp⟩) (δ:=-1) Yf rfl rfl rfl rfl λ z4 p4 j1 j2 _=>?_;obtain⟨S,W,T,I,hn,hl⟩:=j2;obtain⟨l4,F,B,E,f4⟩:=z4;simp only at S W T I hn hl
 have V:(LZ.st ⟨0,F,B,E,f4⟩)<511/\(LZ.st ⟨0,F,B,E,f4⟩) % 2=0/\(LZ.st ⟨0,F,B,E,f4⟩) / 4 % 2=B/\(LZ.st ⟨0,F,B,E,f4⟩) / 2 % 2=F/\(LZ.st ⟨0,F,B,E,f4⟩) / 8=E:=by
  unfold LZ.st;simp only;omega
 obtain⟨G,H,L,N,P⟩:=V
 have key:∃me',Tz .rls ⟨l4,F,B,E,f4⟩ me' ⟨0,F,B,E,f4⟩/\me'.rels=true/\me'.isOwn=false/\(((LZ.st ⟨0,F,B,E,f4⟩) / 4 % 2=0/\GW me' (LZ.st ⟨0,F,B,E,f4⟩))\/((LZ.st ⟨0,F,B,E,f4⟩) / 4 % 2=1/\me'=.uls))/\((LZ.st ⟨0,F,B,E,f4⟩)=0->me'=.fin):=by
  have K:B=0\/B=1:=O1
  rcases K with e|e
  .by_cases hx:E=0\/F=1
   .exact⟨.fin,.relf e hx,rfl,rfl,.inl ⟨O1,.inr ⟨rfl,O1⟩⟩,λ _=>rfl⟩
   .exact⟨.unl,.relu e O1 O1,rfl,rfl,.inl ⟨O1,.inl ⟨rfl,O1,O1⟩⟩,λ h=>O1⟩
  .exact⟨.uls,.rels e,rfl,rfl,.inr ⟨O1,rfl⟩,λ h=>O1⟩
 obtain⟨me',Y,k2,k3,Z,k5⟩:=key;refine⟨me',⟨0,F,B,E,f4⟩,Y,?_,rfl,k2,k3,?_⟩
 .rw[show((LZ.st ⟨l4,F,B,E,f4⟩:Nat):Int)+(-1)=((LZ.st ⟨0,F,B,E,f4⟩:Nat):Int) by(unfold LZ.st;simp only;omega)];exact PT O1
 clear Y;generalize LZ.st ⟨0,F,B,E,f4⟩=w' at G H L N P Z k5 ⊢
 (conv=>whnf);(repeat((first|refine⟨rfl,?_⟩|refine⟨D1,?_⟩);(try simp(disch:=omega) only[Qn,Qh,Qk,Ql,Qm,Qo,Qq,Qs,Qr,Qp,Z3,Z4,Qt]);conv=>whnf))
 intro a2 w;refine⟨by rw[w.size,f.size],_,w.get,?_⟩;rw[w.ds];clear w f a1
 (conv=>whnf);(repeat((first|refine⟨rfl,?_⟩|refine⟨D1,?_⟩);(try simp(disch:=omega) only[Qn,Qh,Qk,Ql,Qm,Qo,Qq,Qs,Qr,Qp,Z3,Z4,Qt]);conv=>whnf))
 refine Qe (λ hc=>?_) (λ hc=>?_)
 .refine⟨UU.any,(Rs (U:=Qa.lk { U with M:=M₂ } 1 bb D ⟨b,111,sp⟩ s me' (p4,w')) (Q:=λ v U'=>v=.tuple #[]/\∃lo,U'=Qa.lk { U with M:=M₂ } 1 bb D ⟨b,111,sp⟩ s .fin lo) rfl G H j1 Z λ lo=>⟨rfl,lo,rfl⟩).mono ?_⟩;rintro v U'⟨rfl,lo',rfl⟩-
  (conv=>whnf);(repeat((first|refine⟨rfl,?_⟩|refine⟨D1,?_⟩);(try simp(disch:=omega) only[Qn,Qh,Qk,Ql,Qm,Qo,Qq,Qs,Qr,Qp,Z3,Z4,Qt]);conv=>whnf))
  intro a1 f;refine Zf _ f SW ?_
  (conv=>whnf);(repeat((first|refine⟨rfl,?_⟩|refine⟨D1,?_⟩);(try simp(disch:=omega) only[Qn,Qh,Qk,Ql,Qm,Qo,Qq,Qs,Qr,Qp,Z3,Z4,Qt]);conv=>whnf))
  refine Xx (x:=⟨b,111,sp⟩) (m:=.enable) (d':=0) (.inr rfl) J8 rfl rfl rfl ?_
  (conv=>whnf);(repeat((first|refine⟨rfl,?_⟩|refine⟨D1,?_⟩);(try simp(disch:=omega) only[Qn,Qh,Qk,Ql,Qm,Qo,Qq,Qs,Qr,Qp,Z3,Z4,Qt]);conv=>whnf))
  intro a2 w;refine⟨by rw[w.size,f.size],_,w.get,?_⟩;rw[w.ds];clear w f a1
  (conv=>whnf);(repeat((first|refine⟨rfl,?_⟩|refine⟨D1,?_⟩);(try simp(disch:=omega) only[Qn,Qh,Qk,Ql,Qm,Qo,Qq,Qs,Qr,Qp,Z3,Z4,Qt]);conv=>whnf))
  exact X _
 .have hc0:w'=0:=by have:=bne_eq_false_iff_eq.1 hc;omega
  obtain rfl:=k5 hc0
  (conv=>whnf);(repeat((first|refine⟨rfl,?_⟩|refine⟨D1,?_⟩);(try simp(disch:=omega) only[Qn,Qh,Qk,Ql,Qm,Qo,Qq,Qs,Qr,Qp,Z3,Z4,Qt]);conv=>whnf))
  intro a1 f;refine Zf _ f SW ?_
  (conv=>whnf);(repeat((first|refine⟨rfl,?_⟩|refine⟨D1,?_⟩);(try simp(disch:=omega) only[Qn,Qh,Qk,Ql,Qm,Qo,Qq,Qs,Qr,Qp,Z3,Z4,Qt]);conv=>whnf))
  refine Xx (x:=⟨b,111,sp⟩) (m:=.enable) (d':=0) (.inr rfl) J8 rfl rfl rfl ?_
  (conv=>whnf);(repeat((first|refine⟨rfl,?_⟩|refine⟨D1,?_⟩);(try simp(disch:=omega) only[Qn,Qh,Qk,Ql,Qm,Qo,Qq,Qs,Qr,Qp,Z3,Z4,Qt]);conv=>whnf))
  intro a2 w;refine⟨by rw[w.size,f.size],_,w.get,?_⟩;rw[w.ds];clear w f a1
  (conv=>whnf);(repeat((first|refine⟨rfl,?_⟩|refine⟨D1,?_⟩);(try simp(disch:=omega) only[Qn,Qh,Qk,Ql,Qm,Qo,Qq,Qs,Qr,Qp,Z3,Z4,Qt]);conv=>whnf))
  exact X _
def An{R:Nat->Bool}{M₁ M₂:List Q2}{Q:Qa Tk->Prop}(z:U.tok=⟨0,.wrk bb D,some (.lok ⟨b,111,sp⟩ s (.own R) lo)⟩)(f:U.M=M₁++M₂)(e:sp (Q9 R s true) M₁)
  (w:∀lo,Q { U with M:=M₂,tok:=⟨0,.wrk bb D,some (.lok ⟨b,111,sp⟩ s .fin lo)⟩ }):X4 Zs 66 #[.pointer (some ⟨b,0,none⟩)] Q U:=by
 refine X4.of (args:=[_]) Lb Qd S1 ?_;refine⟨DN.any,(NW (Q:=λ v U'=>v=.tuple #[]/\Q U') z f e λ lo=>⟨rfl,w lo⟩).mono ?_⟩;rintro v U'⟨rfl,B⟩-
 conv=>whnf
 exact⟨rfl,B⟩
end Go.Proofs
namespace Go.TM
section
variable{P:Program}{t:TypeId}{N:Nat}{fn:FuncId}{f:Fm}{K:Value->Qa Tk->Prop}{U:Qa Tk}{o:Oper}{d b:Nat}{ds:List Spec}{pend:Bool}{k₀:PS}{mu:Option ZK}
def Tu{m:Nat}(f:GJ P t m){o n w:Int}{sm:Value}{es:Array Event} :
  Jo P t (Extern.Atomic.casT (.int .u64) #[.pointer (some ⟨m,0,none⟩),.int .u64 o,.int .u64 n] >>= λ v=>pure (Next.value v)) (.int .u64 w) sm es [] =
   .ok (.value (.bool (w==o))) (.int .u64 (if w=o then n else w)) sm (if w=o then(es.push (QA m 0)).push (QD m 0)else es.push (QA m 0)) (if w=o then[(m,true),(m,true),(m,false),(m,false)]else[(m,true),(m,false),(m,false)]):=by
 show Jo P t (Sem.bind (Sem.bind (Extern.Atomic.touchesFrozen ⟨m,0,none⟩) _) _) _ _ _ _=_;rw[KF];refine(f _ _ _ _).trans ?_;by_cases e:w=o
 .subst e;simp[Sem.bind,Bind.bind,Pure.pure,Extern.Atomic.read,load,store,Jo,ZP,XB,QA,QD,Array.getLit]
 .have e':(w==o)=false:=by simpa using e
  simp[Sem.bind,Bind.bind,Pure.pure,Extern.Atomic.read,load,store,Jo,ZP,XB,QA,QD,Array.getLit,e,e']
def qz{m:Nat}{w d:Int}{sm:Value}{es:Array Event} :
  Jo P t (Extern.Atomic.update (Op.intArith .add) .u64 true #[.pointer (some ⟨m,0,none⟩),.int .u64 d] >>= λ v=>pure (Next.value v)) (.int .u64 w) sm es [] =
   .ok (.value (.int .u64 (IntKind.u64.wrap (w+d)))) (.int .u64 (IntKind.u64.wrap (w+d))) sm ((es.push (QA m 0)).push (QD m 0)) [(m,true),(m,true)]:=rfl
def EP{m:Nat}{w:Int}{sm:Value}{es:Array Event} :
  Jo P t (Extern.Atomic.loadT (.int .u64) #[.pointer (some ⟨m,0,none⟩)] >>= λ v=>pure (Next.value v)) (.int .u64 w) sm es []=.ok (.value (.int .u64 w)) (.int .u64 w) sm (es.push (QA m 0)) [(m,true)]:=rfl
def Ef{g:FuncId}{xs:Array Operand}{w:Array TypeId}(G:Jl P g λ _=>do mark .disable;pure (Value.tuple #[]))(B:o.op=.call { callee:=.value (.func g),args:=xs,argTypes:=w })
  (M:U.tok=⟨d,.par b ds pend k₀,mu⟩) (k:K (.tuple #[]) (U.at (d+1) (.par b ds pend k₀))):ZC (Zj P t N) fn o f K U:=by
 intro ops i rest Q a V F I L S H Stop m E T cs e z;refine .syn (QC.dis (bs:=[]) rfl M (λ st sm=>?_) Z0 (H _ _ k Stop m E T cs e z));rw[<- XZ (P:=P) (fn:=fn) (g:=g) (m:=.disable) S1];refine Ww I S e ?_;rw[F,<- Jy _ V,L,G.ev B rfl];exact Oi
def Eg{g:FuncId}{xs:Array Operand}{w:Array TypeId}(G:Jl P g λ _=>do mark .enable;pure (Value.tuple #[]))(B:o.op=.call { callee:=.value (.func g),args:=xs,argTypes:=w })
  (M:U.tok=⟨d+1,.par b ds pend k₀,mu⟩) (k:K (.tuple #[]) (U.at d (.par b ds pend k₀))):ZC (Zj P t N) fn o f K U:=by
 intro ops i rest Q a V F I L S H Stop m E T cs e z;refine .syn (QC.ena (bs:=[]) rfl M (λ st sm=>?_) Z0 (H _ _ k Stop m E T cs e z));rw[<- XZ (P:=P) (fn:=fn) (g:=g) (m:=.enable) S1];refine Ww I S e ?_;rw[F,<- Jy _ V,L,G.ev B rfl];exact Oi
def V_{bs:List (Nat×Bool)}{v:Value}(G:U.tok.ph.blk=some b)(B:∀st sm,Jo P t (execOp (Zc f) o) st sm #[] []=.ok (.value v) st sm #[] bs)(w:Js b bs)
  (k:K v U):ZC (Zj P t N) fn o f K U:=by
 intro ops i rest Q a T F I L M H Stop m E S cs e z;refine .syn (QC.quiet rfl G (λ st sm=>?_) w (H _ _ k Stop m E S cs e z));rw[<- Wr P fn];refine Ww I M e ?_;rw[F,<- Jy _ T,L];exact B st sm
def Eh{g:FuncId}{p:Operand}{w:Array TypeId}(wr:Bool)(H:Jl P g (Extern.Race.marked (λ a=>bif wr then .write a else .read a)))(B:o.op=.call { callee:=.value (.func g),args:=#[p],argTypes:=w })
  (F:Zc f p=.pointer (some ⟨b,1,none⟩)) (T:U.tok=⟨1,.par b ds pend k₀,mu⟩) (k:K (.tuple #[]) U):ZC (Zj P t N) fn o f K U:=by
 intro ops i rest Q a X G M S V I Stop m E W cs e z;refine .syn (QC.said (bs:=[]) (wr:=wr) rfl T (λ st sm=>?_) Z0 (I _ _ k Stop m E W cs e z));rw[<- XZ (P:=P) (fn:=fn) (g:=g) (m:=bif wr then .write ⟨b,1,none⟩else .read ⟨b,1,none⟩) (by cases wr <;> simp)];refine Ww M V e ?_;have L:(#[p]:Array Operand).map (Zc f)=#[.pointer (some ⟨b,1,none⟩)]:=by simp[F]
 rw[G,<- Jy _ X,S,H.ev B rfl,L];rfl
def M1{g:FuncId}{e w:Operand}{E:Array TypeId}(V:Jl P g (Extern.Atomic.update (Op.intArith .add) .u64 true))(G:o.op=.call { callee:=.value (.func g),args:=#[e,w],argTypes:=E })
  (L:Zc f e=.pointer (some ⟨b,0,none⟩)) (M:Zc f w=.int .u64 4294967296) (ht:U.tok=⟨1,.par b ds false .run,mu⟩) (S:ds.length<N)
  (B:∀c:Nat,c<=ds.length->IntKind.u64.wrap (((c*4294967296+0:Nat):Int)+4294967296)=(((c+1)*4294967296+0:Nat):Int))
  (k:∀c,c<=ds.length->K (Jh (c+1) 0) (U.at 1 (.par b ds true .run))):ZC (Zj P t N) fn o f K U:=by
 intro ops i rest Q a o' T Y Z hw W Stop m I kk cs z F;have X:(#[e,w]:Array Operand).map (Zc f)=#[.pointer (some ⟨b,0,none⟩),.int .u64 4294967296]:=by simp[L,M]
 refine .syn (QC.add rfl ht S λ c H=>⟨_,[(b,true),(b,true)],?_,Z9,W _ _ (k c H) Stop m I kk cs z F⟩);rw[<- V6 (P:=P) (fn:=fn) (g:=g)];refine Ww Y hw z ?_;rw[T,<- Jy _ o',Z,V.ev G rfl,X];unfold Jh;rw[qz,B c H]
def Oe{m:Nat}{g:FuncId}:seen P fn (#[⟨.mark (.extern g),false,true⟩].push (QA m 0))=#[QA m 0]:=Gt (P:=P) (fn:=fn) (g:=g) [QA m 0] λ e f=>Kl (m:=m) e (by simp at f;subst f;simp)
def M0{g:FuncId}{p:Operand}{z:Array TypeId}{u:Nat}(M:Jl P g (Extern.Atomic.loadT (.int .u64)))(B:o.op=.call { callee:=.value (.func g),args:=#[p],argTypes:=z })
  (H:Zc f p=.pointer (some ⟨b,0,none⟩)) (X:U.tok=⟨1,.par b ds false k₀,mu⟩) (W:X7 ds u k₀)
  (k:∀c,c<=u->K (Jh c 0) (U.at 1 (.par b ds false (.seen c)))\/(c=0/\K (Jh c 0) (U.at 1 (.par b ds false .up)))):ZC (Zj P t N) fn o f K U:=by
 intro ops i rest Q a Z I T V Y F Stop m E G cs e w;have S:(#[p]:Array Operand).map (Zc f)=#[.pointer (some ⟨b,0,none⟩)]:=by simp[H]
 refine .syn (QC.look rfl X W λ c L=>⟨_,[(b,true)],Xw,.inl ⟨?_,(k c L).imp (λ x=>F _ _ x Stop m E G cs e w) λ x=>⟨x.1,F _ _ x.2 Stop m E G cs e w⟩⟩⟩);rw[<- Oe (P:=P) (fn:=fn) (g:=g)];refine Ww T Y e ?_;rw[I,<- Jy _ Z,V,M.ev B rfl,S];exact EP
def M4{g:FuncId}{F G H:Operand}{S:Array TypeId}{u B:Nat}(he:Jl P g (Extern.Atomic.casT (.int .u64)))(Z:GJ P t b)(T:o.op=.call { callee:=.value (.func g),args:=#[F,G,H],argTypes:=S })
  (h1:Zc f F=.pointer (some ⟨b,0,none⟩)) (h2:Zc f G=Jh B 0) (h3:Zc f H=Jh B 1) (I:1<=B) (ht:U.tok=⟨1,.par b ds false k₀,mu⟩) (hs:X7 ds u k₀)
  (V:K (.bool true) (U.at 1 (.par b ds false .wait))) (no:∀c,c<=u->c≠B->K (.bool false) (U.at 1 (.par b ds false (.seen c)))):ZC (Zj P t N) fn o f K U:=by
 intro ops i rest Q a o' ha Y hr hw X Stop m W kk cs E L;have hm:(#[F,G,H]:Array Operand).map (Zc f)=#[.pointer (some ⟨b,0,none⟩),Jh B 0,Jh B 1]:=by simp[h1,h2,h3]
 refine .syn (QC.look rfl ht hs λ c hc=>?_)
 have M:∀sm,Jo P t (execOp a.eval o') (Jh c 0) sm #[] []=Jo P t (Extern.Atomic.casT (.int .u64) #[.pointer (some ⟨b,0,none⟩),Jh B 0,Jh B 1] >>= λ v=>pure (Next.value v)) (Jh c 0) sm #[⟨.mark (.extern g),false,true⟩] []:=λ sm=>by
  rw[ha,<- Jy _ o',hr,he.ev T rfl,hm]
 by_cases e:c=B
 .subst e;refine⟨_,[(b,true),(b,true),(b,false),(b,false)],(Kc (x:=true) (y:=true) (z:=false) (w:=false)).1,.inr ⟨I,?_,X _ _ V Stop m W kk cs E L⟩⟩;rw[<- V6 (P:=P) (fn:=fn) (g:=g)];refine Ww Y hw E ?_;rw[M];refine(Tu Z).trans ?_;simp only[if_true,beq_self_eq_true];rfl
 .have e':¬(((c*4294967296+0:Nat):Int)=((B*4294967296+0:Nat):Int)):=O1
  have e2:(((c*4294967296+0:Nat):Int)==((B*4294967296+0:Nat):Int))=false:=by simpa using e'
  refine⟨_,[(b,true),(b,false),(b,false)],(Kc (x:=true) (y:=false) (z:=false) (w:=false)).2,.inl ⟨?_,.inl (X _ _ (no c hc e) Stop m W kk cs E L)⟩⟩;rw[<- Oe (P:=P) (fn:=fn) (g:=g)];refine Ww Y hw E ?_;rw[M];refine(Tu Z).trans ?_;simp only[e',if_false,e2];rfl
def M2{g:FuncId}{w:Operand}{ps:List Operand}{B:Array TypeId}(G:Jl P g Extern.Sync.semacquire)(z:o.op=.call { callee:=.value (.func g),args:=(w::ps).toArray,argTypes:=B })
  (V:Zc f w=.pointer (some ⟨b,1,none⟩)) (X:U.tok=⟨1,.par b ds false .wait,mu⟩) (k:K (.tuple #[]) (U.at 1 (.par b ds false .up))):ZC (Zj P t N) fn o f K U:=by
 intro ops i rest Q a S F I L M W Stop m T Y cs e E;have H:((w::ps).toArray).map (Zc f)=((.pointer (some ⟨b,1,none⟩))::ps.map (Zc f)).toArray:=by simp[V]
 refine .syn (QC.sema rfl rfl X (λ st=>⟨[(b,true)],Xw,EH I M e ?_⟩) ⟨_,[(b,true),(b,true)],Z9,?_,W _ _ k Stop m T Y cs e E⟩)
 .rw[F,<- Jy _ S,L,G.ev z rfl,H];exact Ts
 .rw[<- V7 (P:=P) (fn:=fn) (g:=g)];refine Ww I M e ?_;rw[F,<- Jy _ S,L,G.ev z rfl,H];exact Tt
def Fq{g:FuncId}{p:Operand}{w:Array TypeId}(H:Jl P g (Extern.Atomic.loadT (.int .u64)))(B:o.op=.call { callee:=.value (.func g),args:=#[p],argTypes:=w })
  (F:Zc f p=.pointer (some ⟨b,0,none⟩)) (T:U.tok=⟨1,.par b ds false .up,mu⟩) (k:K (Jh 0 0) U):ZC (Zj P t N) fn o f K U:=by
 intro ops i rest Q a X G M S V I Stop m E W cs e z;have L:(#[p]:Array Operand).map (Zc f)=#[.pointer (some ⟨b,0,none⟩)]:=by simp[F]
 refine .syn (QC.look2 (bs:=[(b,true)]) rfl T Xw ?_ (I _ _ k Stop m E W cs e z));rw[<- Oe (P:=P) (fn:=fn) (g:=g)];refine Ww M V e ?_;rw[G,<- Jy _ X,S,H.ev B rfl,L];exact EP
def UI{g:FuncId}{p:Operand}{z:Array TypeId}{y:ZA}{u:Nat->Bool}(L:Jl P g (Extern.Race.marked .acquire))(F:o.op=.call { callee:=.value (.func g),args:=#[p],argTypes:=z })
  (B:Zc f p=.pointer (some ⟨b,0,none⟩)) (X:U.tok=⟨0,.par b ds false .up,some (.par y u)⟩)
  (k:∀w M,XI ds w->y.sp u M->K (.tuple #[]) { U with M:=(U.M++w.flatten)++M,tok:=⟨0,.out,none⟩ }):ZC (Zj P t N) fn o f K U:=by
 intro ops i rest Q a o' I V W Y S Stop m G Z cs e E;have T:(#[p]:Array Operand).map (Zc f)=#[.pointer (some ⟨b,0,none⟩)]:=by simp[B]
 refine .syn (QC.acqM (bs:=[]) rfl X Z0 (λ st sm=>?_) λ w M B H=>S _ _ (k w M B H) Stop m G Z cs e E);rw[<- XZ (P:=P) (fn:=fn) (g:=g) (m:=.acquire ⟨b,0,none⟩) S1];refine Ww V Y e ?_;rw[I,<- Jy _ o',W,L.ev F rfl,T];rfl
end
section
variable{T:Type}{P:Program}{S:Sys P T}
def EX(S:Sys P T)(fn:FuncId)(d:Deferred)(Q:Qa T->Prop)(U:Qa T):Prop:=
 ∀(Stop:QK T)(m:Bool)(b:Frame)(tmps:Array Value)(todo:List Item)(ds:List Deferred)(c:Frame)(cs:List Frame),b.fn=fn->(∀U',Q U'->J S Stop m (Rf { fr b ⟨tmps,ds⟩ todo with mode:=.returning } (c::cs)) U') ->
  J S Stop m (Rf { fr b ⟨tmps,d::ds⟩ todo with mode:=.returning } (c::cs)) U
def Ox(S:Sys P T)(fn:FuncId)(rl:List RV)(Q:Value->Qa T->Prop)(f:Fm)(l:List Deferred):Qa T->Prop:=
 List.rec (motive:=λ _=>Qa T->Prop) (λ U=>Xr f Q rl [] U) (λ d r _ U=>r=[]/\EX S fn d (λ U'=>Xr f Q rl [] U') U) l
def Qb.ofA{g:FuncId}{N:Nat}{cc:C}{rl:List RV}(k:Zg P g N cc rl)(X:P.follows .mixedOrders=true){args:List Value}(hn:args.length<=N){U:Qa T}{Q:Value->Qa T->Prop}
  (h:JL S g none cc (λ f ds U=>Ox S g rl Q f ds U) (λ _ _ _ _=>False) (λ f ds U=>Ox S g rl Q f ds U) (fm args) [] U):Qb S g args.toArray Q U:=by
 obtain⟨fd,mu,dets,L,M,V,rfl,Z,-⟩:=k.ok;intro Stop m w cs Y
 let b:Frame:={ (default:Frame)with fn:=g,kind:=.normal }
 have E:Rf (Frame.enter P g args.toArray .normal) (w::cs)=R b { tmps:=args.toArray++Array.replicate (fd.ntmps-args.toArray.size) undef,defers:=[] } [.code (fd.body.getD .skip)] (w::cs):=by
  simp only[Rf,R,Frame.enter,fr,L,b,Option.bind_some];rw[M];rfl
 rw[E]
 have I:FR fd.ntmps { tmps:=args.toArray++Array.replicate (fd.ntmps-args.toArray.size) undef,defers:=[] } (fm args) []:=by
  refine⟨rfl,S3,λ t=>?_⟩;simp only[fm,Array.getD_eq_getD_getElem?,getD_eq_getElem?_getD,Array.getElem?_append,size_toArray,getElem?_toArray];split
  .rfl
  .rename_i hlt;rw[getElem?_eq_none O1,Array.getElem?_replicate];split <;> rfl
 subst V
 have fin:∀(a':Act)(f':Fm)(z:List Deferred)(U':Qa T),FR fd.ntmps a' f' z->Ox S g rl Q f' z U'->∀todo,J S Stop m (Rf { fr b a' todo with mode:=.returning } (w::cs)) U':=by
  intro a' f' z U' B F todo
  have ret:∀G,Xr f' Q rl [] G->J S Stop m (Rf { fr b ⟨a'.tmps,[]⟩ todo with mode:=.returning } (w::cs)) G:=λ G hx=>
   X5.step L (.inl rfl) Y [] todo G (Ge Z [] G hx a'.tmps B.get)
  obtain⟨tm,K⟩:=a';have H:K=z:=B.ds;subst H;cases K with
  |nil=>exact ret U' F
  |cons d r=>
   obtain⟨rfl,W⟩:=F;exact W Stop m b tm todo [] w cs rfl ret
 refine J.body (fn:=g) ⟨rfl,rfl,by simp[b],S1⟩ (He X _ I h) λ e a' U' q=>?_;obtain⟨f',z,B,F⟩:=q;cases e with
 |normal=>exact⟨.inl rfl,fin a' f' z U' B F⟩
 |ret=>exact⟨.inr rfl,fin a' f' z U' B F⟩
 |exit id=>exact F.elim
end
section
variable{P:Program}{t:TypeId}{N:Nat}{fn:FuncId}{U:Qa Tk}{d b:Nat}{ds:List Spec}{pend:Bool}{k₀:PS}{mu:Option ZK}
def Ep{g:FuncId}{args:Array Value}{Q:Qa Tk->Prop}(G:Jl P g λ _=>do mark .enable;pure (Value.tuple #[]))(K:U.tok=⟨d+1,.par b ds pend k₀,mu⟩)(k:Q (U.at d (.par b ds pend k₀))) :
  EX (Zj P t N) fn { target:=.fn (.func g) #[],args:=args } Q U:=by
 intro Stop m L tmps todo M c cs f H;obtain⟨fd,w,z,B,E⟩:=G.fd;obtain⟨I,F⟩:=by simpa only[Prod.mk.injEq]using z
 refine .syn (QC.ena (bs:=[]) rfl K (λ st sm=>?_) Z0 (H _ k));rw[<- XZ (P:=P) (fn:=fn) (g:=g) (m:=.enable) S1]
 have e:Jo P t (invoke (.fn (.func g) #[]) args) st sm #[] []=.ok (.value (.tuple #[])) st sm (#[⟨.mark (.extern g),false,true⟩].push (Wj .enable)) []:=by
  simp only[invoke,callFunc,program];simp only[Bind.bind,Pure.pure,Sem.bind,Jo,w,I,F,B,E,mark,Bool.false_eq_true,if_false,if_true,Array.empty_append,Array.append_empty];rfl
 unfold Q5;simp only[Rf,fr,GA,e,HX,Wq,f]
end
end Go.TM
namespace Go.Proofs
open Go.TM
variable{b:Nat}{ds:List TM.Spec}{k₀:PS}{mu:Option ZK}{U:Qa Tk}{Q:Value->Qa Tk->Prop}
def AX:Jl Tryz.prog 126 (Extern.Atomic.update (Op.intArith .add) .u64 true):=⟨_,Tryz.func126,K1,K1,K1⟩
def Uj:Jl Tryz.prog 127 (Extern.Atomic.loadT (.int .u64)):=⟨_,Tryz.func127,K1,K1,K1⟩
def AZ:Jl Tryz.prog 129 (Extern.Atomic.casT (.int .u64)):=⟨_,Tryz.func129,K1,K1,K1⟩
def CA:Jl Tryz.prog 100 (Extern.Race.marked (λ a=>bif false then .write a else .read a)):=⟨_,Tryz.func100,K1,K1,K1⟩
def A_:Jl Tryz.prog 108 (Extern.Race.marked (λ a=>bif true then .write a else .read a)):=⟨_,Tryz.func108,K1,K1,K1⟩
def CC:Jl Tryz.prog 109 Extern.Sync.semacquire:=⟨_,Tryz.func109,K1,K1,K1⟩
def BY:Extern.find Tryz.f95=some (λ _=>pure (.bool false)):=K1
def BZ:Extern.findNext Tryz.f95=none:=K1
def LG(b:Nat):GJ Tryz.prog 118 b:=λ k st sm es=>K1
def zg{c:Nat}(h:c<=20):IntKind.u64.wrap (((c*4294967296+0:Nat):Int)+4294967296)=(((c+1)*4294967296+0:Nat):Int):=by
 have key:(range 21).all (λ c=>decide (IntKind.u64.wrap (((c*4294967296+0:Nat):Int)+4294967296)=(((c+1)*4294967296+0:Nat):Int)))=true:=K1
 exact of_decide_eq_true (all_eq_true.1 key c (mem_range.2 O1))
def BE(z:ds.length<20)(B:U.tok=⟨1,.par b ds false .run,mu⟩)(k:∀c,c<=ds.length->Q (Jh (c+1) 0) (U.at 1 (.par b ds true .run))):Qb Zs 99 #[.pointer (some ⟨b,0,none⟩),.int .u64 4294967296] Q U:=by
 refine Qb.of (args:=[_,_]) DO Qd S1 ?_
 ((conv=>whnf);(repeat((first|refine⟨rfl,?_⟩|refine⟨D1,?_⟩);conv=>whnf)))
 intro a1 e;refine Zf _ e Ce ?_
 ((conv=>whnf);(repeat((first|refine⟨rfl,?_⟩|refine⟨D1,?_⟩);conv=>whnf)))
 refine M1 AX rfl rfl rfl B z (λ c w=>zg O1) λ c w=>?_
 ((conv=>whnf);(repeat((first|refine⟨rfl,?_⟩|refine⟨D1,?_⟩);conv=>whnf)))
 intro a2 f;refine⟨by rw[f.size,e.size],_,f.get,?_⟩;rw[f.ds]
 ((conv=>whnf);(repeat((first|refine⟨rfl,?_⟩|refine⟨D1,?_⟩);conv=>whnf)))
 exact k c w
def B0{u:Nat}(B:U.tok=⟨1,.par b ds false k₀,mu⟩)(z:X7 ds u k₀)(k:∀c,c<=u->Q (Jh c 0) (U.at 1 (.par b ds false (.seen c)))\/(c=0/\Q (Jh c 0) (U.at 1 (.par b ds false .up)))):Qb Zs 101 #[.pointer (some ⟨b,0,none⟩)] Q U:=by
 refine Qb.of (args:=[_]) Vz Qd S1 ?_
 ((conv=>whnf);(repeat((first|refine⟨rfl,?_⟩|refine⟨D1,?_⟩);conv=>whnf)))
 intro a1 e;refine Zf _ e SJ ?_
 ((conv=>whnf);(repeat((first|refine⟨rfl,?_⟩|refine⟨D1,?_⟩);conv=>whnf)))
 refine M0 Uj rfl rfl B z λ c w=>(k c w).imp (λ q=>?_) λ q=>⟨q.1,?_⟩
 all_goals((conv=>whnf);(repeat((first|refine⟨rfl,?_⟩|refine⟨D1,?_⟩);conv=>whnf)))
 all_goals intro a2 f
 all_goals refine⟨by rw[f.size,e.size],_,f.get,?_⟩
 all_goals rw[f.ds]
 all_goals((conv=>whnf);(repeat((first|refine⟨rfl,?_⟩|refine⟨D1,?_⟩);conv=>whnf)))
 .exact q
 .exact q.2
def A7(w:U.tok=⟨1,.par b ds false .up,mu⟩)(k:Q (Jh 0 0) U):Qb Zs 101 #[.pointer (some ⟨b,0,none⟩)] Q U:=by
 refine Qb.of (args:=[_]) Vz Qd S1 ?_
 ((conv=>whnf);(repeat((first|refine⟨rfl,?_⟩|refine⟨D1,?_⟩);conv=>whnf)))
 intro a1 e;refine Zf _ e SJ ?_
 ((conv=>whnf);(repeat((first|refine⟨rfl,?_⟩|refine⟨D1,?_⟩);conv=>whnf)))
 refine Fq Uj rfl rfl w ?_
 ((conv=>whnf);(repeat((first|refine⟨rfl,?_⟩|refine⟨D1,?_⟩);conv=>whnf)))
 intro a2 f;refine⟨by rw[f.size,e.size],_,f.get,?_⟩;rw[f.ds]
 ((conv=>whnf);(repeat((first|refine⟨rfl,?_⟩|refine⟨D1,?_⟩);conv=>whnf)))
 exact k
def B_{u e:Nat}(F:1<=e)(H:U.tok=⟨1,.par b ds false k₀,mu⟩)(G:X7 ds u k₀)(z:Q (.bool true) (U.at 1 (.par b ds false .wait)))(no:∀c,c<=u->c≠e->Q (.bool false) (U.at 1 (.par b ds false (.seen c)))):Qb Zs 107 #[.pointer (some ⟨b,0,none⟩),Jh e 0,Jh e 1] Q U:=by
 refine Qb.of (args:=[_,_,_]) UL Qd S1 ?_
 ((conv=>whnf);(repeat((first|refine⟨rfl,?_⟩|refine⟨D1,?_⟩);conv=>whnf)))
 intro a1 f;refine Zf _ f Ax ?_
 ((conv=>whnf);(repeat((first|refine⟨rfl,?_⟩|refine⟨D1,?_⟩);conv=>whnf)))
 refine M4 AZ (LG b) rfl rfl rfl rfl F H G ?_ λ c B E=>?_
 all_goals((conv=>whnf);(repeat((first|refine⟨rfl,?_⟩|refine⟨D1,?_⟩);conv=>whnf)))
 all_goals intro a2 w
 all_goals refine⟨by rw[w.size,f.size],_,w.get,?_⟩
 all_goals rw[w.ds]
 all_goals((conv=>whnf);(repeat((first|refine⟨rfl,?_⟩|refine⟨D1,?_⟩);conv=>whnf)))
 .exact z
 .exact no c B E
structure Gw(n:Nat):Prop where
 b:IntKind.wrap .u64 ((BitVec.ofInt (IntKind.bits .u64) ((n*4294967296+0:Nat):Int)&&&BitVec.ofInt (IntKind.bits .u64) 2147483648).toNat:Int)=0
 m:IntKind.wrap .u64 ((BitVec.ofInt (IntKind.bits .u64) ((n*4294967296+0:Nat):Int)&&&BitVec.ofInt (IntKind.bits .u64) 2147483647).toNat:Int)=0
 d:Int.fdiv ((n*4294967296+0:Nat):Int) (2^(min ((32:Int).toNat) (IntKind.bits .u64)))=(n:Int)
 i:IntKind.wrap .i32 (n:Int)=(n:Int)
 p:IntKind.wrap .u64 (((n*4294967296+0:Nat):Int)+1)=((n*4294967296+1:Nat):Int)
def Gw.chk(n:Nat):Bool:=decide (IntKind.wrap .u64 ((BitVec.ofInt (IntKind.bits .u64) ((n*4294967296+0:Nat):Int)&&&BitVec.ofInt (IntKind.bits .u64) 2147483648).toNat:Int)=0)&&decide (IntKind.wrap .u64 ((BitVec.ofInt (IntKind.bits .u64) ((n*4294967296+0:Nat):Int)&&&BitVec.ofInt (IntKind.bits .u64) 2147483647).toNat:Int)=0)&&decide (Int.fdiv ((n*4294967296+0:Nat):Int) (2^(min ((32:Int).toNat) (IntKind.bits .u64)))=(n:Int))&&decide (IntKind.wrap .i32 (n:Int)=(n:Int))&&decide (IntKind.wrap .u64 (((n*4294967296+0:Nat):Int)+1)=((n*4294967296+1:Nat):Int))
def Gw.of{n:Nat}(h:n<=21):Gw n:=by
 have key:(range 22).all Gw.chk=true:=K1
 have:=all_eq_true.1 key n (mem_range.2 O1);simp only[Gw.chk,Bool.and_eq_true,decide_eq_true_eq]at this;obtain⟨⟨⟨⟨e,f⟩,w⟩,z⟩,B⟩:=this;exact⟨e,f,w,z,B⟩
def QO{n:Nat}(h:n<=21):IntKind.wrap .u64 ((BitVec.ofInt (IntKind.bits .u64) ((n*4294967296+0:Nat):Int)&&&BitVec.ofInt (IntKind.bits .u64) 2147483648).toNat:Int)=0:=(Gw.of h).b
def QR{n:Nat}(h:n<=21):IntKind.wrap .u64 ((BitVec.ofInt (IntKind.bits .u64) ((n*4294967296+0:Nat):Int)&&&BitVec.ofInt (IntKind.bits .u64) 2147483647).toNat:Int)=0:=(Gw.of h).m
def QP{n:Nat}(h:n<=21):Int.fdiv ((n*4294967296+0:Nat):Int) (2^(min ((32:Int).toNat) (IntKind.bits .u64)))=(n:Int):=(Gw.of h).d
def QQ{n:Nat}(h:n<=21):IntKind.wrap .i32 (n:Int)=(n:Int):=(Gw.of h).i
def W7{n:Nat}(h:n<=21):IntKind.wrap .u64 (((n*4294967296+0:Nat):Int)+1)=((n*4294967296+1:Nat):Int):=(Gw.of h).p
def QS:IntKind.wrap .u32 0=0:=K1
def qW:IntKind.u64.wrap (IntKind.u64.wrap 1*2^min (Int.toNat 32) IntKind.u64.bits)=4294967296:=K1
def UJ(H:ds.length<20)(K:U.tok=⟨0,.par b ds false .run,mu⟩)(E:Q (.tuple #[]) (U.at 0 (.par b ds true .run))):Qb Zs 69 #[.pointer (some ⟨b,0,none⟩),.int .i64 1] Q U:=by
 refine Qb.ofA (args:=[_,_]) Lc Qd S1 ?_
 ((conv=>whnf);(repeat((first|refine⟨rfl,?_⟩|refine⟨D1,?_⟩);conv=>whnf)))
 intro a1 e;refine Zf _ e C1 ?_
 ((conv=>whnf);(repeat((first|refine⟨rfl,?_⟩|refine⟨D1,?_⟩);conv=>whnf)))
 refine Ef VH rfl K ?_
 ((conv=>whnf);(repeat((first|refine⟨rfl,?_⟩|refine⟨D1,?_⟩);conv=>whnf)))
 intro a2 w;refine⟨by rw[w.size,e.size],_,w.get,?_⟩;rw[w.ds];clear w e a1
 ((conv=>whnf);(repeat((first|refine⟨rfl,?_⟩|refine⟨D1,?_⟩);conv=>whnf)))
 refine ED (v:=.bool false) Tryz.func95 rfl BZ BY rfl ?_;refine⟨D1,?_⟩;simp only[qW];refine⟨DO.any,(BE (U:=U.at 1 (.par b ds false .run)) (Q:=λ v U'=>∃c,c<=ds.length/\v=Jh (c+1) 0/\U'=U.at 1 (.par b ds true .run)) H rfl λ c B=>⟨c,B,rfl,rfl⟩).mono ?_⟩;rintro v U'⟨c,B,rfl,rfl⟩-
 ((conv=>whnf);(repeat((first|refine⟨rfl,?_⟩|refine⟨D1,?_⟩);(try simp(disch:=omega) only[QO,QR,QP,QQ,QS,W7]);conv=>whnf)))
 obtain rfl|I:c=0\/c≠0:=O1
 case' inl=>
  ((conv=>whnf);(repeat((first|refine⟨rfl,?_⟩|refine⟨D1,?_⟩);(try simp(disch:=omega) only[QO,QR,QP,QQ,QS,W7]);conv=>whnf)))
  intro a3 f;refine Zf _ f AM ?_
  ((conv=>whnf);(repeat((first|refine⟨rfl,?_⟩|refine⟨D1,?_⟩);(try simp(disch:=omega) only[QO,QR,QP,QQ,QS,W7]);conv=>whnf)))
  refine V_ (b:=b) (bs:=[(b,false),(b,false)]) (v:=.pointer (some ⟨b,1,none⟩)) rfl (λ st sm=>K1) Z9 ?_
  ((conv=>whnf);(repeat((first|refine⟨rfl,?_⟩|refine⟨D1,?_⟩);(try simp(disch:=omega) only[QO,QR,QP,QQ,QS,W7]);conv=>whnf)))
  refine Eh false CA rfl rfl rfl ?_
  ((conv=>whnf);(repeat((first|refine⟨rfl,?_⟩|refine⟨D1,?_⟩);(try simp(disch:=omega) only[QO,QR,QP,QQ,QS,W7]);conv=>whnf)))
  intro a4 z;refine⟨by rw[z.size,f.size],_,z.get,?_⟩;rw[z.ds];clear z f a3 a4
  ((conv=>whnf);(repeat((first|refine⟨rfl,?_⟩|refine⟨D1,?_⟩);(try simp(disch:=omega) only[QO,QR,QP,QQ,QS,W7]);conv=>whnf)))
 case' inr=>
  have F:(((c+1:Nat):Int)==IntKind.i32.wrap 1)=false:=by rw[show IntKind.i32.wrap 1=1 by kernel_rfl];simp only[beq_eq_false_iff_ne,ne_eq];omega
  rw[F]
  ((conv=>whnf);(repeat((first|refine⟨rfl,?_⟩|refine⟨D1,?_⟩);(try simp(disch:=omega) only[QO,QR,QP,QQ,QS,W7]);conv=>whnf)))
  have G:decide (((c+1:Nat):Int) > 0)=true:=by simp only[decide_eq_true_eq];omega
  rw[G]
  ((conv=>whnf);(repeat((first|refine⟨rfl,?_⟩|refine⟨D1,?_⟩);(try simp(disch:=omega) only[QO,QR,QP,QQ,QS,W7]);conv=>whnf)))
 .exact Ep (U:=U.at 1 (.par b ds true .run)) (d:=0) (b:=b) (ds:=ds) (pend:=true) (k₀:=.run) J8 rfl E
 .exact Ep (U:=U.at 1 (.par b ds true .run)) (d:=0) (b:=b) (ds:=ds) (pend:=true) (k₀:=.run) J8 rfl E
end Go.Proofs
namespace Go.Proofs
open Go.TM
variable{b:Nat}{ds:List TM.Spec}{U:Qa Tk}{Q:Value->Qa Tk->Prop}{y:ZA}{v:Nat->Bool}
def Cx(V:ds.length<=20)(S:U.tok=⟨0,.par b ds false .run,some (.par y v)⟩)(X:∀F M',XI ds F->y.sp v M'->Q (.tuple #[]) ⟨U.I,(U.M++F.flatten)++M',⟨0,.out,none⟩⟩):Qb Zs 70 #[.pointer (some ⟨b,0,none⟩)] Q U:=by
 obtain⟨I,M,tok⟩:=U;simp only at S;subst S;refine Qb.of (args:=[_]) Ld Qd S1 ?_
 ((conv=>whnf);(repeat((first|refine⟨rfl,?_⟩|refine⟨D1,?_⟩);conv=>whnf)))
 intro a1 e;refine Zf _ e C2 ?_
 ((conv=>whnf);(repeat((first|refine⟨rfl,?_⟩|refine⟨D1,?_⟩);conv=>whnf)))
 refine Ef VH rfl rfl ?_
 ((conv=>whnf);(repeat((first|refine⟨rfl,?_⟩|refine⟨D1,?_⟩);conv=>whnf)))
 intro a2 w;refine⟨by rw[w.size,e.size],_,w.get,?_⟩;rw[w.ds];clear w e a1;refine⟨PS×Nat,λ _=>[(0,.pointer (some ⟨b,0,none⟩))],λ k U'=>X7 ds k.2 k.1/\k.2<=20/\U'=⟨I,M,⟨1,.par b ds false k.1,some (.par y v)⟩⟩,λ k=>k.2,(.run,ds.length),T1,⟨.inl ⟨rfl,rfl⟩,V,rfl⟩,?_⟩;rintro⟨k₀,u⟩f U'⟨P,W,rfl⟩;simp only at P W;refine⟨Vz.any,(B0 (k₀:=k₀) (U:=⟨I,M,⟨1,.par b ds false k₀,some (.par y v)⟩⟩) (Q:=λ z U'=>(z=Jh 0 0/\U'=⟨I,M,⟨1,.par b ds false .up,some (.par y v)⟩⟩)\/∃c,1<=c/\c<=u/\z=Jh c 0/\U'=⟨I,M,⟨1,.par b ds false (.seen c),some (.par y v)⟩⟩) rfl P λ c L=>?_).mono ?_⟩
 .rcases Nat.eq_zero_or_pos c with rfl|G
  .exact .inr ⟨rfl,.inl ⟨rfl,rfl⟩⟩
  .exact .inl (.inr ⟨c,G,L,rfl,rfl⟩)
 rintro z U' (⟨rfl,rfl⟩|⟨c,G,L,rfl,rfl⟩) -
 case' inl=>
  ((conv=>whnf);(repeat((first|refine⟨rfl,?_⟩|refine⟨D1,?_⟩);(try simp(disch:=omega) only[QO,QR,QP,QQ,QS,W7]);conv=>whnf)))
  intro a1 e;refine Zf _ e C3 ?_
  ((conv=>whnf);(repeat((first|refine⟨rfl,?_⟩|refine⟨D1,?_⟩);(try simp(disch:=omega) only[QO,QR,QP,QQ,QS,W7]);conv=>whnf)))
  refine Eg J8 rfl rfl ?_
  ((conv=>whnf);(repeat((first|refine⟨rfl,?_⟩|refine⟨D1,?_⟩);(try simp(disch:=omega) only[QO,QR,QP,QQ,QS,W7]);conv=>whnf)))
  intro a2 w;refine⟨by rw[w.size,e.size],_,w.get,?_⟩;rw[w.ds];clear w e a1
  ((conv=>whnf);(repeat((first|refine⟨rfl,?_⟩|refine⟨D1,?_⟩);(try simp(disch:=omega) only[QO,QR,QP,QQ,QS,W7]);conv=>whnf)))
  intro a1 e;refine Zf _ e C4 ?_
  ((conv=>whnf);(repeat((first|refine⟨rfl,?_⟩|refine⟨D1,?_⟩);(try simp(disch:=omega) only[QO,QR,QP,QQ,QS,W7]);conv=>whnf)))
  refine V_ (b:=b) (bs:=[(b,false),(b,false)]) (v:=.pointer (some ⟨b,0,none⟩)) rfl (λ st sm=>K1) Z9 ?_
  ((conv=>whnf);(repeat((first|refine⟨rfl,?_⟩|refine⟨D1,?_⟩);(try simp(disch:=omega) only[QO,QR,QP,QQ,QS,W7]);conv=>whnf)))
  refine UI (b:=b) Ha rfl rfl rfl λ F M' H K=>?_
  ((conv=>whnf);(repeat((first|refine⟨rfl,?_⟩|refine⟨D1,?_⟩);(try simp(disch:=omega) only[QO,QR,QP,QQ,QS,W7]);conv=>whnf)))
  intro a3 B;refine⟨by rw[B.size,e.size],_,B.get,?_⟩;rw[B.ds];clear B e a1
  ((conv=>whnf);(repeat((first|refine⟨rfl,?_⟩|refine⟨D1,?_⟩);(try simp(disch:=omega) only[QO,QR,QP,QQ,QS,W7]);conv=>whnf)))
  intro a1 e;refine Zf _ e C5 ?_
  ((conv=>whnf);(repeat((first|refine⟨rfl,?_⟩|refine⟨D1,?_⟩);(try simp(disch:=omega) only[QO,QR,QP,QQ,QS,W7]);conv=>whnf)))
  intro a2 w;refine⟨by rw[w.size,e.size],_,w.get,?_⟩;rw[w.ds];clear w e a1
  ((conv=>whnf);(repeat((first|refine⟨rfl,?_⟩|refine⟨D1,?_⟩);(try simp(disch:=omega) only[QO,QR,QP,QQ,QS,W7]);conv=>whnf)))
 case' inr=>
  ((conv=>whnf);(repeat((first|refine⟨rfl,?_⟩|refine⟨D1,?_⟩);(try simp(disch:=omega) only[QO,QR,QP,QQ,QS,W7]);conv=>whnf)))
  have T:(((c:Nat):Int)==0)=false:=by simp only[beq_eq_false_iff_ne,ne_eq];omega
  rw[T];refine⟨rfl,?_⟩;simp(disch:=omega) only[W7];refine⟨UL.any,(B_ (k₀:=.seen c) (u:=c) (U:=⟨I,M,⟨1,.par b ds false (.seen c),some (.par y v)⟩⟩) (Q:=λ z U'=>(z=.bool true/\U'=⟨I,M,⟨1,.par b ds false .wait,some (.par y v)⟩⟩)\/∃E,E<c/\z=.bool false/\U'=⟨I,M,⟨1,.par b ds false (.seen E),some (.par y v)⟩⟩) G rfl (.inr rfl) (.inl ⟨rfl,rfl⟩) λ E H K=>.inr ⟨E,O1,rfl,rfl⟩).mono ?_⟩;rintro z U' (⟨rfl,rfl⟩|⟨E,N,rfl,rfl⟩) -
  case' inl=>
   ((conv=>whnf);(repeat((first|refine⟨rfl,?_⟩|refine⟨D1,?_⟩);(try simp(disch:=omega) only[QO,QR,QP,QQ,QS,W7]);conv=>whnf)))
   intro a1 e;refine Zf _ e AN ?_
   ((conv=>whnf);(repeat((first|refine⟨rfl,?_⟩|refine⟨D1,?_⟩);(try simp(disch:=omega) only[QO,QR,QP,QQ,QS,W7]);conv=>whnf)))
   refine V_ (b:=b) (bs:=[(b,false),(b,false)]) (v:=.pointer (some ⟨b,1,none⟩)) rfl (λ st sm=>K1) Z9 ?_
   ((conv=>whnf);(repeat((first|refine⟨rfl,?_⟩|refine⟨D1,?_⟩);(try simp(disch:=omega) only[QO,QR,QP,QQ,QS,W7]);conv=>whnf)))
   refine Eh true A_ rfl rfl rfl ?_
   ((conv=>whnf);(repeat((first|refine⟨rfl,?_⟩|refine⟨D1,?_⟩);(try simp(disch:=omega) only[QO,QR,QP,QQ,QS,W7]);conv=>whnf)))
   intro a2 w;refine⟨by rw[w.size,e.size],_,w.get,?_⟩;rw[w.ds];clear w e a1
   ((conv=>whnf);(repeat((first|refine⟨rfl,?_⟩|refine⟨D1,?_⟩);(try simp(disch:=omega) only[QO,QR,QP,QQ,QS,W7]);conv=>whnf)))
   intro a1 e;refine Zf _ e AO ?_
   ((conv=>whnf);(repeat((first|refine⟨rfl,?_⟩|refine⟨D1,?_⟩);(try simp(disch:=omega) only[QO,QR,QP,QQ,QS,W7]);conv=>whnf)))
   refine M2 (ps:=[_]) CC rfl rfl rfl ?_
   ((conv=>whnf);(repeat((first|refine⟨rfl,?_⟩|refine⟨D1,?_⟩);(try simp(disch:=omega) only[QO,QR,QP,QQ,QS,W7]);conv=>whnf)))
   intro a2 w;refine⟨by rw[w.size,e.size],_,w.get,?_⟩;rw[w.ds];clear w e a1;refine⟨Vz.any,(A7 (b:=b) (ds:=ds) (mu:=some (.par y v)) (U:=⟨I,M,⟨1,.par b ds false .up,some (.par y v)⟩⟩) (Q:=λ z U'=>z=Jh 0 0/\U'=⟨I,M,⟨1,.par b ds false .up,some (.par y v)⟩⟩) rfl ⟨rfl,rfl⟩).mono ?_⟩;rintro z U'⟨rfl,rfl⟩-
   ((conv=>whnf);(repeat((first|refine⟨rfl,?_⟩|refine⟨D1,?_⟩);(try simp(disch:=omega) only[QO,QR,QP,QQ,QS,W7]);conv=>whnf)))
   intro a1 e;refine Zf _ e AP ?_
   ((conv=>whnf);(repeat((first|refine⟨rfl,?_⟩|refine⟨D1,?_⟩);(try simp(disch:=omega) only[QO,QR,QP,QQ,QS,W7]);conv=>whnf)))
   refine Eg J8 rfl rfl ?_
   ((conv=>whnf);(repeat((first|refine⟨rfl,?_⟩|refine⟨D1,?_⟩);(try simp(disch:=omega) only[QO,QR,QP,QQ,QS,W7]);conv=>whnf)))
   intro a2 w;refine⟨by rw[w.size,e.size],_,w.get,?_⟩;rw[w.ds];clear w e a1
   ((conv=>whnf);(repeat((first|refine⟨rfl,?_⟩|refine⟨D1,?_⟩);(try simp(disch:=omega) only[QO,QR,QP,QQ,QS,W7]);conv=>whnf)))
   intro a1 e;refine Zf _ e AQ ?_
   ((conv=>whnf);(repeat((first|refine⟨rfl,?_⟩|refine⟨D1,?_⟩);(try simp(disch:=omega) only[QO,QR,QP,QQ,QS,W7]);conv=>whnf)))
   refine V_ (b:=b) (bs:=[(b,false),(b,false)]) (v:=.pointer (some ⟨b,0,none⟩)) rfl (λ st sm=>K1) Z9 ?_
   ((conv=>whnf);(repeat((first|refine⟨rfl,?_⟩|refine⟨D1,?_⟩);(try simp(disch:=omega) only[QO,QR,QP,QQ,QS,W7]);conv=>whnf)))
   refine UI (b:=b) Ha rfl rfl rfl λ F M' H K=>?_
   ((conv=>whnf);(repeat((first|refine⟨rfl,?_⟩|refine⟨D1,?_⟩);(try simp(disch:=omega) only[QO,QR,QP,QQ,QS,W7]);conv=>whnf)))
   intro a3 B;refine⟨by rw[B.size,e.size],_,B.get,?_⟩;rw[B.ds];clear B e a1
   ((conv=>whnf);(repeat((first|refine⟨rfl,?_⟩|refine⟨D1,?_⟩);(try simp(disch:=omega) only[QO,QR,QP,QQ,QS,W7]);conv=>whnf)))
  case' inr=>
   ((conv=>whnf);(repeat((first|refine⟨rfl,?_⟩|refine⟨D1,?_⟩);(try simp(disch:=omega) only[QO,QR,QP,QQ,QS,W7]);conv=>whnf)))
   refine⟨(.seen E,E),T1,⟨.inr rfl,O1,rfl⟩,?_⟩;exact Nat.lt_of_lt_of_le N L
 all_goals exact X F M' H K
end Go.Proofs

