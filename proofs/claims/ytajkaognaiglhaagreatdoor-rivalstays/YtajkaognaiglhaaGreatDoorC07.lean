/- Lemmas. No conditions. -/
import Derived.Test.YtajkaognaiglhaaGreatDoorC06
import Derived.Test.YtajkaognaiglhaaGreatDoorC05
import Derived.Test.YtajkaognaiglhaaGreatDoorB30
set_option linter.all false
set_option maxRecDepth 100000
set_option maxHeartbeats 4000000
open List
open Go.Proofs.Tryz (prog)
namespace Go.TM
open Go.Proofs
variable{T:Type}{P:Program}{d:Sys P T}{f:FuncId}{args:Array Value}{U:Qa T}{Q:Value->Qa T->Prop}{e:Qa T}{l:List Int}{a:Option Addr}{len m:Nat}{A:List Q2}{U':Qa T}{b:Bool}{n:Zh T}{i:Fm}{ds:List Deferred}
def Qb.ok0{R:Value->Qa T->Prop}(h:(∃w,U.ok w)->Qb d f args R U):Qb d f args R U:=by
 intro Stop m c cs k;by_cases e:∃w,U.ok w
 .exact h e Stop m c cs k
 .exact .priv ⟨rfl,λ w ok=>absurd ⟨w,ok⟩ e⟩
def Qb.prS(w:Q1 U e)(h:Qb d f args Q e):Qb d f args Q U:=λ Stop m c cs k=>.shift w (h Stop m c cs k)
def Jx.ints(h:Jx 3 1 (.slice a len m) (l.map λ n=>.int .i64 n) A)(F:∀r∈A,r∈U.M):Z8 U a len l:=by
 have f:l.length=len:=by
  obtain⟨a',l',G,e,f⟩:=h.src;cases e;simpa using f
 refine⟨f,λ i x z=>?_⟩
 have w:(l.map λ n=>Value.int .i64 n)≠[]:=by
  intro e;have:l=[]:=by simpa using e
  subst this;simp at z
 obtain⟨b,cc,B,cap,e,-,-,-,rfl,E⟩:=h.blk w;cases e;refine⟨⟨b,0,none⟩,rfl,rfl,?_⟩;rw[Qu];exact⟨rfl,.inl ⟨cc,3,(0,0),.inr (F _ S1),E _ _ (by simp[z])⟩⟩
def Zg0{A:Prop}(E:Fm->Qa T->Prop)(h:∀f' U',E f' U'->n f' ds U')(w:b=true->∀N,n=N->(∀f' U',E f' U'->N f' ds U')->A)(z:b=false->E i U):CB b A (n i ds U):=
 Qe (λ e=>w e n rfl h) λ e=>h _ _ (z e)
def Zb9:List (List (Nat×St)):=[[(0,.xd 83 2 3),(0,.m 84 18),(0,.m 85 19),(0,.xi 86 1 84 85),(0,.xl 87 86),(2,.d 88 (.call (.func 34) #[(.t 83),(.t 87)])),(2,.d 20 (.alloc 25 #[.nl,.nl]))],
 [(0,.xd 83 2 3),(0,.m 84 18),(0,.m 85 19),(0,.xi 86 1 84 85),(0,.xl 87 86),(2,.d 20 (.alloc 25 #[.nl,.nl])),(2,.d 88 (.call (.func 34) #[(.t 83),(.t 87)]))]]
def Zfd:List St:=[⟨.st 2 (.t 20) (.t 88),none,none,none⟩]
variable{S:Sys prog T}
section
attribute [local irreducible] Qb Zr W5
def Za0:Qbb U none []:=⟨rfl,λ i x e=>by simp at e⟩
def Zd0(h:BH)(b:Bk)(bg:Qd6 U.frz h b)(bp:h.rl<=h.rc)(r:Int)(st:Bool) :
  Qb S 8 #[h.v,.int .i64 r,.bool st] (λ v U'=>(∃a c,v=.tuple #[.slice a ((b.stF r st).getD []).length c,.bool (b.stF r st).isSome,.int .i64 (b.askF r)]/\Qbb U'.frz a ((b.stF r st).getD []))/\U.le U') U:=by
 refine Qb.grown (R:=λ v U'=>∃a c,v=.tuple #[.slice a ((b.stF r st).getD []).length c,.bool (b.stF r st).isSome,.int .i64 (b.askF r)]/\Qbb U' a ((b.stF r st).getD [])) (λ v U1 U2 hl⟨a,c,e,h1⟩=>⟨a,c,e,Qbb.lg h1 hl⟩) (Qb.of (args:=[_,_,_]) Zfr Qd S1 ?_);have hb:=bg.v;have cw:=hb.cs.1;have bq:=hb.rs.1
 let zB:Array Value:=#[.nl,.nl]
 repeat refine⟨rfl,?_⟩
 conv=>whnf
 intro B U1 Y hB;have hB:=Zz4 h hB;have b1:Zo U1.frz B #[.slice h.ra h.rl h.rc,.slice h.ca h.cl h.cc]:=hB;have aj:=hb.lg Y.lg.frz2;have bh:=bg.lg Y.lg.frz2;have M:∀w:Qa T,U1.frz.lg w->Ju w ⟨B,0,none⟩ [.slice h.ra h.rl h.rc,.slice h.ca h.cl h.cc]:=λ w hw=>(b1.lg hw).rd;refine⟨_,⟨rfl,M _ Qy⟩,Zdo.any,(Qtg h b aj bp r).go λ _=>?_⟩
 repeat refine⟨rfl,?_⟩
 conv=>whnf
 apply Qe<;>intro hc
 .have hf:b.askF r≠0:=by simpa using hc
  have hn:b.stF r st=none:=by unfold Bk.stF Bk.staF;rw[if_neg hf]
  rw[hn]
  repeat refine⟨rfl,?_⟩
  conv=>whnf
  exact⟨⟨none,0,rfl,Za0⟩,Y.lg⟩
 have hF:b.askF r=0:=by simpa using hc
 obtain⟨L,cg,ch⟩:=Bk.askF_ok hF;obtain⟨q,rfl⟩:=Int.eq_ofNat_of_zero_le cg;have hq:q<h.rl:=by unfold Bk.nr at ch;omega
 have bo:q<b.rs.length:=O1
 have bl:=L.nc;rw[hF];obtain⟨w,hw⟩:∃w,w=X5 st:=⟨_,rfl⟩
 have ce:∀(m i:Nat)(y:PrL),(∀Q,Q<m->∀x∈TM.parts b.cans Q,b.good q w x=false)->(TM.parts b.cans m)[i]?=some y->(∀(j:Nat)(x:PrL),j<i->(TM.parts b.cans m)[j]?=some x->b.good q w x=false)->b.good q w y=true->b.stF (q:Int) st=some y:=by
  rw[hw];exact λ m i y a1 a2 a3 a4=>Bk.rst_hit L hF a1 a2 a3 a4
 have aq:b.fatR q≠X5 (!st)->∀m,b.cs.length<m->(∀Q,Q<m->∀x∈TM.parts b.cans Q,b.good q w x=false)->False:=by
  rw[hw];exact λ a1 m a3 a2=>Bk.rst_none L hF a1 λ Q hm=>a2 Q O1
 have P:=Bk.dif_want L bo (st:=st)
 have aw:b.fatR q=X5 (!st)->b.stF (q:Int) st=none:=λ e=>by
  cases h9:b.stF (q:Int) st with
  |none=>rfl
  |some y=>exact absurd e ((Bk.stF_some L hF).1 (by rw[h9];rfl))
 have bn:∀x:PrL,x.Sublist b.cans->b.FrL x:=λ x hx=>Bk.sub_frL hx
 conv=>whnf
 refine Zg0 (λ f' U'=>U'=U1/\XH f' [(1,.int .i64 q),(2,.bool st),(3,.pb B),(10,.int .i64 w)]) ?_ (λ hc N eN hn=>?_) (λ hc=>?_)
 rotate_left
 .have hs:st=true:=by simpa using hc
  rw[eN];clear eN
  repeat refine⟨rfl,?_⟩
  conv=>whnf
  exact hn _ _ ⟨rfl,rfl,rfl,rfl,by rw[hw,hs];rfl,trivial⟩
 .have hs:st=false:=by simpa using hc
  exact⟨rfl,rfl,rfl,rfl,by rw[hw,hs];rfl,trivial⟩
 rintro f' U'⟨b4,ab⟩;obtain rfl:=b4.symm;rw[<- ab.ovr];clear ab;refine⟨_,⟨rfl,M _ Qy⟩,Ze1.any,(Zda h b aj bp (q:Int)).mono ?_⟩;rintro _ U2⟨⟨_,_,rfl,⟨a1,c1,rfl,h1⟩,⟨a2,c2,rfl,h2⟩⟩,az⟩-;rw[hF,if_pos rfl,Int.toNat_natCast]at h1 h2;rw[hF,if_pos rfl,if_pos rfl,Int.toNat_natCast];have cq:=az.lg.frz2;refine⟨_,⟨rfl,M _ (Oe Qy az)⟩,Zdv.any,(Qoz h b (aj.lg cq) L).mono ?_⟩;rintro _ U3⟨⟨_,_,rfl,⟨ra,rc,rfl,hR⟩,⟨wa,wc,rfl,-⟩⟩,b6⟩-;have ah:=az.trans b6;have b9:b.fatesR.length=h.rl:=by simp[Bk.fatesR,bq]
 rw[b9]at hR ⊢;obtain⟨bu,xR,cm,b3,cu,cj⟩:=hR.at hq;obtain rfl:b.fatR q=xR:=Option.some.inj ((show b.fatesR[q]?=some (b.fatR q) by simp[Bk.fatesR,bo]).symm.trans cm);refine⟨bu,q,⟨b3,rfl,hq⟩,_,cj.lg Qy,?_⟩;obtain⟨F,ay⟩:∃F,F=b.fatR q:=⟨_,rfl⟩;rw[<- ay];rw[<- ay]at aq P aw;rw[<- hw]at P;have h3:F=0\/F=1\/F=2:=ay▸Zbp _ _
 have a5:F=X5 (!st)\/(F=w/\F≠X5 (!st))\/(F=0/\F≠X5 (!st)/\(F != w)=true):=by
  rw[hw];cases st <;> simp[X5] <;> omega
 rcases a5 with he|⟨he,a7⟩|⟨he,a7,an⟩
 .rw[aw he];obtain⟨k1,k2⟩:=P.2 he;have an:(F != w)=true:=by simpa using k1
  have k3:(Qan (b.difS q st)).length=0:=by simpa[Qan]using k2
  have Z:=(Y.trans ah).lg
  repeat refine⟨rfl,?_⟩
  conv=>whnf
  rw[an];cases st with
  |true=>
   rw[k3]
   repeat refine⟨rfl,?_⟩
   conv=>whnf
   exact⟨⟨none,0,rfl,Za0⟩,Z⟩
  |false=>
   rw[k3]
   repeat refine⟨rfl,?_⟩
   conv=>whnf
   exact⟨⟨none,0,rfl,Za0⟩,Z⟩
 case' _=>
  rw[he]
  repeat refine⟨rfl,?_⟩
  conv=>whnf
  rw[show(w != w)=false by simp]
  repeat refine⟨rfl,?_⟩
  conv=>whnf
 rotate_left
 case' _=>
  have k3:(((Qan (b.difS q st)).length:Int)==0)=false:=by
   have:=λ k=>a7 (P.1 ⟨by simpa using an,k⟩);simp[Qan];intro e;exact this (by rw[e];rfl)
  repeat refine⟨rfl,?_⟩
  conv=>whnf
  rw[an];cases st
  all_goals
   repeat refine⟨rfl,?_⟩
   conv=>whnf
   rw[k3]
   repeat refine⟨rfl,?_⟩
   conv=>whnf
 all_goals
  refine⟨_,⟨rfl,M _ (Oe Qy ah)⟩,Ze2.any,(Zd1 h b (aj.lg ah.lg.frz2) bl).mono ?_⟩;rintro _ U4⟨⟨ca,cc,rfl,hC,b2⟩,b7⟩-;have bw:=ah.trans b7;have bd:=b.cans_20 bl;refine⟨Nat,λ m=>[(1,.int .i64 q),(3,.pb B),(10,.int .i64 w),(16,.slice ca b.cans.length cc),(17,.int .i64 m)],λ m U'=>U4.le U'/\m<=b.cs.length+1/\∀Q,Q<m->∀x∈TM.parts b.cans Q,b.good q w x=false,λ m=>b.cs.length+1-m,0,T1,⟨.refl _,O1,λ Q hm=>O1⟩,?_⟩;rintro m f U5⟨a0,hm,a8⟩;have bj:Je ((m:Int)+1):=I1
  have be:=bw.trans a0;refine⟨_,(M _ (Oe Qy be)).cell (i:=1) rfl,?_⟩
  repeat refine⟨rfl,?_⟩
  conv=>whnf
  refine Qe (λ am=>?_) (λ am=>?_)
  .have am:m<=b.cs.length:=by simp at am;omega
   refine⟨Qz7.any,(Zet m b.cans U5 ca cc O1 bd b2 (Qbb.lg hC a0.lg.frz2)).mono ?_⟩;rintro _ U6⟨⟨la,lc,cells,rfl,br,cr,ap⟩,h6⟩-;have bx:=be.trans h6;have b8:=ap.1;have c3:=Qta b.cans m;have cy:2^b.cans.length<=2^20:=Nat.pow_le_pow_right O1 bd;have cz:(2:Nat)^20=1048576:=D1
   refine⟨Nat,λ i=>[(1,.int .i64 q),(3,.pb B),(10,.int .i64 w),(16,.slice ca b.cans.length cc),(17,.int .i64 m),(18,.slice la cells.length lc),(19,.int .i64 i)],λ i U'=>U6.le U'/\i<=cells.length/\∀(j:Nat)(x:PrL),j<i->(TM.parts b.cans m)[j]?=some x->b.good q w x=false,λ i=>cells.length-i,0,T1,⟨.refl _,O1,λ j x hj=>O1⟩,?_⟩;rintro i f U7⟨h7,hi,ae⟩;have au:Je ((i:Int)+1):=I1
   have ai:=bx.trans h7
   repeat refine⟨rfl,?_⟩
   conv=>whnf
   refine Qe (λ H=>?_) (λ H=>?_)
   .have H:i<cells.length:=by simpa using H
    obtain⟨y,hy⟩:∃y,(TM.parts b.cans m)[i]?=some y:=⟨_,getElem?_eq_getElem O1⟩;obtain⟨cp,c4⟩:=HG.1 (mem_of_getElem? hy);obtain⟨ya,yc,bb,hY⟩:=ap.2 i y hy
    obtain⟨ad,ea,a9⟩:∃ad,la=some ad/\Ju U6.frz ad cells:=by
     rcases br with⟨_,hn⟩|h
     .subst hn;simp at H
     .exact h
    have ba:=bn y cp;have ag:=ba.ok1 L.ok1;have bk:∀s∈y,0<=s.1/\s.1.toNat<b.cs.length:=λ s hs=>⟨(ba.all.1 s hs).c0,(ba.all.1 s hs).cl⟩
    have next:b.good q w y=false->∀(j:Nat)(x:PrL),j<i+1->(TM.parts b.cans m)[j]?=some x->b.good q w x=false:=λ hg j x hj hx=>by
     by_cases e:j=i
     .subst e;rw[hy]at hx;cases hx;exact hg
     .exact ae j x O1 hx
    have bt:∀w':Qa T,U7.frz.lg w'.frz->Qb S 34 #[h.v,.slice ya y.length yc] (λ v U''=>(∃E:BH,v=E.v/\Qd6 U''.frz E (b.stys y)/\E.rl=h.rl/\E.rc=h.rc)/\w'.le U'') w':=λ w' bs=>
     Qld h b (bh.lg (ai.lg.frz2.trans bs)) O1 5 L.srt y ya yc (Qbb.lg hY (h7.lg.frz2.trans bs)) O1 bk
    conv=>whnf
    intro ct ac
    refine YM (mu:=[]) (ops:=PN Tryz.f8 19) (id:=19) ac [5,6] [[0,1,2,3,4,5,6],[0,1,2,3,4,6,5]] [7] Zb9 Zfd Qd K1 K1 K1 K1 K1
     (λ f' bc U'=>bc=[]/\∃z E,XH f' [(1,.int .i64 q),(3,.pb B),(10,.int .i64 w),(16,.slice ca b.cans.length cc),(17,.int .i64 m),(18,.slice la cells.length lc),(19,.int .i64 i),(20,.pb z),(88,E.v)]/\HqV U7 (λ Ud=>Qd6 Ud.frz E (b.stys y)/\E.rl=h.rl/\E.rc=h.rc) z 25 zB U') ?_ ?_
    .intro l hl;simp only[Zb9,mem_cons,not_mem_nil,or_false]at hl;rcases hl with rfl|rfl
     .refine⟨_,⟨rfl,M _ ai.lg.frz2⟩,ad,i,⟨ea,rfl,H⟩,_,by rw[Nat.mul_one];exact(a9 i _ bb).lg h7.lg.frz2,?_⟩;refine⟨λ v U'=>U7.le U'/\∃E:BH,v=E.v/\Qd6 U'.frz E (b.stys y)/\E.rl=h.rl/\E.rc=h.rc,λ v x1 x2⟨q1,E,e,q2,q3⟩K=>⟨q1.trans K,E,e,q2.lg K.lg.frz2,q3⟩,λ v U' I=>Qy.trans I.1.lg,λ U' G=>?_,λ v hv=>?_⟩
      .refine⟨Qz8.any,(bt U' G.lg.frz2).mono λ v U''⟨q1,q2⟩_=>⟨U'',.refl _,G.trans q2,q1⟩⟩
      obtain⟨_,-,E,rfl,-⟩:=hv;refine⟨λ v U'=>∃z,v=.pb z/\HqV U7 (λ Ud=>Qd6 Ud.frz E (b.stys y)/\E.rl=h.rl/\E.rc=h.rc) z 25 zB U',λ v x1 x2⟨z,e,I⟩K=>⟨z,e,I.le K⟩,λ v U'⟨z,e,I⟩=>I.frz,λ U' G=>?_,λ v hv=>?_⟩
      .obtain⟨k1,W,e,k2⟩:=G;obtain rfl:E=W:=by cases E;cases W;simp[BH.v]at e;obtain⟨⟨rfl,rfl,rfl⟩,rfl,rfl,rfl⟩:=e;rfl
       conv=>whnf
       intro z aa;exact⟨_,.refl _,_,.refl _,z,rfl,U',k1,k2,.made (.refl _) aa⟩
      obtain⟨_,z,rfl,-⟩:=hv
      conv=>whnf
      rintro U'⟨V,e,I⟩;obtain rfl:z=V:=by simpa using e
      exact⟨rfl,z,E,T1,I⟩
     .refine⟨_,⟨rfl,M _ ai.lg.frz2⟩,ad,i,⟨ea,rfl,H⟩,_,by rw[Nat.mul_one];exact(a9 i _ bb).lg h7.lg.frz2,?_⟩;refine⟨λ v U'=>∃z,v=.pb z/\Hlr U7 z 25 zB U',λ v x1 x2⟨z,e,I⟩K=>⟨z,e,I.le K⟩,λ v U'⟨z,e,I⟩=>I.frz1,λ U' G=>?_,λ v hv=>?_⟩
      .conv=>whnf
       intro z aa;exact⟨_,.refl _,_,.refl _,z,rfl,.made G aa⟩
      obtain⟨_,z,rfl,-⟩:=hv;refine⟨λ v U'=>∃E:BH,v=E.v/\HqV U7 (λ Ud=>Qd6 Ud.frz E (b.stys y)/\E.rl=h.rl/\E.rc=h.rc) z 25 zB U',λ v x1 x2⟨E,e,I⟩K=>⟨E,e,I.le K⟩,λ v U'⟨E,e,I⟩=>I.frz,λ U' G=>?_,λ v hv=>?_⟩
      .obtain⟨V,e,G⟩:=G;obtain rfl:z=V:=by simpa using e
       refine⟨Qz8.any,(bt U' G.frz2).mono λ v U''⟨⟨E,e',q1,q3⟩,q2⟩hs=>⟨U'',.refl _,E,e',.of G q2 hs ⟨q1.lg ⟨λ _ _ h=>h,⟨[],rfl⟩,rfl⟩,q3⟩⟩⟩
      obtain⟨_,E,rfl,-⟩:=hv
      conv=>whnf
      rintro U'⟨W,e,I⟩;obtain rfl:E=W:=by cases E;cases W;simp[BH.v]at e;obtain⟨⟨rfl,rfl,rfl⟩,rfl,rfl,rfl⟩:=e;rfl
      exact⟨rfl,z,E,T1,I⟩
    rintro f' bc U8⟨rfl,z,E,ab,Ud,k1,⟨hW,e1,e2⟩,k3⟩;rw[<- ab.ovr];clear ab;refine⟨rfl,k3.write (vs:=[.slice E.ra E.rl E.rc,.slice E.ca E.cl E.cc]) rfl (by simp[Value.single]) λ U9 av ao=>?_⟩
    conv=>whnf
    intro a' ak;refine⟨by rw[ak.size,ac.size],_,ak.get,?_⟩;rw[ak.ds];clear ak ac;have X:=k1.trans av;have bz:=ai.trans X;have bf:=hW.lg av.lg.frz2
    have cf:=M0 (A:=(b.stys y).A) (λ p hp k hk=>by
     rw[Bk.A_n]at hp ⊢;rw[Bk.aft1_cas hp]at hk;obtain⟨n,hn,rfl⟩:=mem_map.1 hk;obtain⟨h0,h1⟩:=ag.af _ (Bk.cas_mem hp) n hn;unfold Bk.nc at h1;omega)
    refine⟨_,⟨rfl,ao.rd⟩,?_⟩;refine⟨Q1d.any,(Qh8 E (b.stys y) bf.v ag.low).go λ _=>?_⟩;rw[<- cf];cases al:W4 (b.stys y).A with
    |true=>
     have hg:b.good q w y=false:=by unfold Bk.good;rw[al];rfl
     repeat refine⟨rfl,?_⟩
     refine⟨au,?_⟩
     conv=>whnf
     exact⟨rfl,i+1,T1,⟨h7.trans X,O1,next hg⟩,L1⟩
    |false=>
     have bm:=ag.ok al;have ax:(b.stys y).rs.length=h.rl:=by rw[Bk.stys_rs];exact bq
     refine⟨_,⟨rfl,ao.rd⟩,?_⟩;refine⟨Zdv.any,(Qoz E (b.stys y) bf.v bm).mono ?_⟩;rintro _ Ua⟨⟨_,_,rfl,⟨xa,xc,rfl,hX⟩,⟨za,zc,rfl,-⟩⟩,ha⟩-;have bi:(b.stys y).fatesR.length=h.rl:=by simp[Bk.fatesR,ax]
     rw[bi]at hX ⊢;obtain⟨bv,xX,co,b5,cv,ck⟩:=hX.at hq;obtain rfl:(b.stys y).fatR q=xX:=Option.some.inj ((show(b.stys y).fatesR[q]?=some ((b.stys y).fatR q) by simp[Bk.fatesR,ax,hq]).symm.trans co);have b0:=bz.trans ha;refine⟨bv,q,⟨b5,rfl,hq⟩,_,ck.lg Qy,?_⟩
     repeat refine⟨rfl,?_⟩
     conv=>whnf
     refine Qe (λ a6=>?_) (λ a6=>?_)
     .have hg:b.good q w y=true:=by unfold Bk.good;rw[al];simpa using a6
      rw[ce m i y a8 hy ae hg];refine⟨ad,i,⟨ea,rfl,H⟩,_,by rw[Nat.mul_one];exact(a9 i _ bb).lg (h7.lg.frz2.trans (Oe Qy (X.trans ha))),?_⟩
      repeat refine⟨rfl,?_⟩
      conv=>whnf
      exact⟨⟨ya,yc,rfl,Qbb.lg hY (h7.trans (X.trans ha)).lg.frz2⟩,(Y.trans b0).lg⟩
     .have hg:b.good q w y=false:=by unfold Bk.good;rw[al];simpa using a6
      repeat refine⟨rfl,?_⟩
      refine⟨au,?_⟩
      conv=>whnf
      exact⟨rfl,i+1,T1,⟨h7.trans (X.trans ha),O1,next hg⟩,L1⟩
   .have H:i=cells.length:=by simp at H;omega
    refine⟨bj,rfl,m+1,T1,⟨a0.trans (h6.trans h7),O1,λ Q cx x hx=>?_⟩,L1⟩;by_cases e:Q=m
    .subst e;obtain⟨j,hj⟩:=getElem?_of_mem hx;have:=(List.getElem?_eq_some_iff.1 hj).1;exact ae j x O1 hj
    .exact a8 Q O1 x hx
  .exact(aq a7 m (by simp at am;omega) a8).elim
def SyO(b:Bk)(l:List (Int×Int))(U':Qa T)(e:BH)(f:Int):Prop:=f=b.syG l/\Zu U'.frz e (if b.syG l=0 then b.stys l else⟨[],[]⟩)
def SyO.zero{b:Bk}{l:List (Int×Int)}{U':Qa T}{f:Int}(h:b.syG l=f)(e:f≠0):SyO b l U' BH.zero f:=by
 refine⟨h.symm,?_⟩;rw[h,if_neg e];exact .zero
def Zc9(h:BH)(b:Bk)(hb:Zu U.frz h b)(hk:JU U)(l:List (Int×Int))(a:Option Addr)(c:Nat)(hl:Zd U.frz a l.length 2 l (λ x vs=>vs=encII x))(b5:l.length<=1000) :
  Qb S 10 #[h.v,.slice a l.length c] (λ v U'=>(∃(w:BH)(f:Int),v=.tuple #[w.v,.int .i64 f]/\SyO b l U' w f)/\U.le U') U:=by
 have bo:=hb.cs.1;have bp:=hb.cl;have a3:b.nc=(h.cl:Int):=by unfold Bk.nc;rw[bo]
 have bj:Qb S 10 #[h.v,.slice a l.length c] (λ v U'=>(∃(w:BH)(f:Int)(R:List Q2),v=.tuple #[w.v,.int .i64 f]/\SyO b l U' w f/\U'.M.Perm (R++U.M))/\(∀x o,U.I x=some o->U'.I x=some o)/\U'.tok=U.tok) U:=by
  refine Qb.of (args:=[_,_]) Zey Qd S1 ?_
  repeat refine⟨rfl,?_⟩
  conv=>whnf
  intro B U1 K hB;have hB:=Zz4 h hB
  conv=>whnf
  intro T bq;refine⟨_,.refl _,?_⟩;have aj:=Z6 (U:=U1) T (.cells #[.nl,.nl] 25);have am:=hB.lg aj;refine⟨_,⟨rfl,am.rd⟩,?_⟩;refine⟨VL.any,(Ky h b (((hb.lg K.lg.frz2).lg Qy).lg aj) ((hk.lg K.lg).lg aj)).go λ _=>?_⟩;by_cases hf:b.flaw Zk=0
  rotate_left
  .repeat refine⟨rfl,?_⟩
   conv=>whnf
   refine Qe (λ _=>?_) (λ hc=>absurd (by simpa using hc) hf);refine⟨rfl,Zy (vs:=[.nl,.nl]) bq rfl (by simp[Value.single]) λ U2 az bl=>?_⟩;refine⟨_,⟨rfl,(show Zo U2 T [Value.slice none 0 0,.nl].toArray from bl).rd⟩,?_⟩
   conv=>whnf
   exact⟨⟨BH.zero,_,[],rfl,.zero (by unfold Bk.syG;rw[if_neg hf]) hf,by rw[az.own,K.own];exact .refl _⟩,λ x o G=>az.imm x o (K.imm x o G),az.tok.trans K.tok⟩
  have aq:=Bk.ok_of hf;have b6:=aq.nc;have hG:b.syG l=b.syF l:=by unfold Bk.syG;rw[if_pos hf]
  rw[hf]
  repeat refine⟨rfl,?_⟩
  refine⟨_,⟨rfl,am.rd⟩,?_⟩;refine⟨Dw.any,(AT (S:=S) (U:=U1.put T (.cells #[.nl,.nl] 25)) h b (hb.lg (K.lg.frz2.trans aj.frz2)) aq.sml).mono ?_⟩;rintro _ U2⟨⟨w,rfl,ho⟩,aa,ay⟩-;have bk:∀x o,U.I x=some o->U2.I x=some o:=λ x o G=>aa x o (K.imm x o G);have b0:U2.tok=U.tok:=ay.trans K.tok;have a4:Zo U2 B #[.slice h.ra h.rl h.rc,.slice h.ca h.cl h.cc]:=am.imI aa
  have ho:QX U2 w b (.cl T [.nl,.nl] 25::U.M):=by
   have e:(U1.put T (.cells #[.nl,.nl] 25)).M=.cl T [.nl,.nl] 25::U.M:=by show _::U1.M=_;rw[K.own]
   rw[<- e];exact ho
  clear aj aa ay am
  conv=>whnf
  intro b7 br;refine⟨_,.refl _,rfl,Zy (vs:=[.slice w.ra w.rl w.rc,.slice w.ca w.cl w.cc]) br rfl (by simp[Value.single]) λ U3 ao a1=>?_⟩;have a1:Zo U3 b7 #[.slice w.ra w.rl w.rc,.slice w.ca w.cl w.cc]:=a1
  refine⟨Nat,λ i=>[(2,.pb B),(4,.pb T),(7,.pb b7),(20,.slice a l.length c),(21,.int .i64 l.length),(22,.int .i64 i)],
   λ i U'=>U3.frz.lg U'/\i<=l.length/\QX U' w (b.stys (l.take i)) (.cl T [.nl,.nl] 25::U.M)/\b.FrL (l.take i)/\b.syF l=(b.stys (l.take i)).syF (l.drop i),λ i=>l.length-i,0,T1,⟨⟨λ _ _ h=>h,Zz3,rfl⟩,O1,ho.le ao,trivial,rfl⟩,?_⟩
  rintro i f U4⟨Z,hi,ho,ap,z⟩;have ba:Je ((i:Int)+1):=I1
  have W:∀x o,U.I x=some o->U4.I x=some o:=λ x o G=>Z.imm x o (ao.imm x o (bk x o G));have ae:Zo U4 b7 #[.slice w.ra w.rl w.rc,.slice w.ca w.cl w.cc]:=a1.imI Z.imm;have ak:U4.tok=U.tok:=Z.tok.trans (ao.tok.trans b0)
  repeat refine⟨rfl,?_⟩
  conv=>whnf
  apply Qe<;>intro hc
  .have hlt:i<l.length:=by simpa using hc
   obtain⟨ad,x,vs,G,rfl,cg,rfl,-,bx⟩:=(hl.mem W λ r hr=>by cases hr).at hlt;rw[Hk G]at z;refine⟨ad,i,⟨rfl,rfl,hlt⟩,_,⟨rfl,bx⟩,?_⟩
   conv=>whnf
   intro b9 bs;refine⟨_,.refl _,rfl,Zy (vs:=encII x) bs rfl (by simp[encII,Value.single]) λ U5 H N=>?_⟩;have N:Zo U5 b9 #[.int .i64 x.1,.int .i64 x.2]:=N;have V:=ae.le H;have aw:Zo U5 B #[.slice h.ra h.rl h.rc,.slice h.ca h.cl h.cc]:=a4.imI λ x o G=>H.imm x o (Z.imm x o (ao.imm x o G));refine⟨_,N.sees3 (o:=0) rfl,_,aw.sees3 (o:=1) rfl,I1,?_⟩;refine⟨Gn.any,(Wy U5 x.1 0 ((h.cl:Int)-1)).go λ _=>?_⟩;cases ag:Q_ x.1 0 ((h.cl:Int)-1)with
   |false=>
    obtain⟨X,Y,hM,-,-,ac⟩:=(ho.le H).pick;obtain⟨ps,A,-,-,-,hp⟩:=ac.ex;refine⟨rfl,Wk (vs:=[.nl,.nl]) X hM rfl (by simp[Value.single]) λ U7 L Q E=>?_⟩;refine⟨_,⟨rfl,Ze X E⟩,⟨BH.zero,6,.cl T [.nl,.nl] 25::(A++ps.flatMap (·.2.F)),rfl,.zero (by rw[hG,z,Bk.syF_out (by rw[Bk.stys_nc,a3,ag];simp)]) D1,?_⟩,λ x o G=>by rw[L];exact H.imm x o (W x o G),?_⟩
    .rw[E];refine perm_middle.trans ?_;rw[cons_append,append_assoc];exact hp.cons _
    .rw[Q];exact H.tok.trans ak
   |true=>
   refine⟨_,N.sees3 (o:=1) rfl,_,aw.sees3 (o:=1) rfl,I1,?_⟩;refine⟨Gn.any,(Wy U5 x.2 0 ((h.cl:Int)-1)).go λ _=>?_⟩;cases ah:Q_ x.2 0 ((h.cl:Int)-1)with
   |false=>
    obtain⟨X,Y,hM,-,-,ac⟩:=(ho.le H).pick;obtain⟨ps,A,-,-,-,hp⟩:=ac.ex;refine⟨rfl,Wk (vs:=[.nl,.nl]) X hM rfl (by simp[Value.single]) λ U7 L Q E=>?_⟩;refine⟨_,⟨rfl,Ze X E⟩,⟨BH.zero,6,.cl T [.nl,.nl] 25::(A++ps.flatMap (·.2.F)),rfl,.zero (by rw[hG,z,Bk.syF_out (by rw[Bk.stys_nc,a3,ah];simp)]) D1,?_⟩,λ x o G=>by rw[L];exact H.imm x o (W x o G),?_⟩
    .rw[E];refine perm_middle.trans ?_;rw[cons_append,append_assoc];exact hp.cons _
    .rw[Q];exact H.tok.trans ak
   |true=>
   have bm:(Q_ x.1 0 ((b.stys (l.take i)).nc-1)&&Q_ x.2 0 ((b.stys (l.take i)).nc-1))=true:=by rw[Bk.stys_nc,a3,ag,ah];rfl
   rw[Bk.syF_in bm]at z
   obtain⟨b1,bi,b2,b3⟩:0<=x.1/\x.1<b.nc/\0<=x.2/\x.2<b.nc:=by
    simp only[Q_,Bool.and_eq_true,decide_eq_true_eq]at ag ah;omega
   have av:x.1.toNat<b.cs.length:=by unfold Bk.nc at bi;omega
   refine⟨_,V.sees3 (o:=1) rfl,_,N.sees3 (o:=0) rfl,?_⟩;have bd:=ho.le H;obtain⟨a0,l0,c0,kF,cb,cc,rest,P⟩:=bd.openC (q:=x.1.toNat) (by rw[Bk.stys_len];exact av);have bh:((x.1.toNat:Nat):Int)=x.1:=O1
   have bu:∀r∈kF,r∈U5.M:=λ r hr=>P.pm.mem_iff.2 (mem_append_left _ hr);have a8:Q2.obj cb (.cells cc.toList.toArray 46 (0,0))∈U5.M:=P.pm.mem_iff.2 (mem_append_right _ (mem_cons_self ..));have a5:=P.acc.ints bu;have b8:=a5.1;refine⟨⟨cb,0,none⟩,x.1.toNat,⟨P.ca,bh.symm,P.lt⟩,.slice a0 l0 c0,?_,?_⟩
   .rw[Qu,Qu];exact⟨rfl,.inl ⟨_,_,_,.inr a8,by have:=P.at3;rw[Array.getElem?_toList]at this;rw[Nat.zero_add];exact this⟩⟩
   refine⟨_,N.sees3 (o:=1) rfl,?_⟩
   conv=>whnf
   intro U6 h6 _;refine⟨Ys.any,(TB a0 l0 c0 _ (a5.le h6) (by have:=P.len;omega) x.2).go λ _=>?_⟩;have be:=bd.le h6;have a6:=V.le h6;have a7:=N.le h6;have al:=H.trans h6
   repeat refine⟨rfl,?_⟩
   conv=>whnf
   apply Qe<;>intro hc
   .rw[if_pos hc]at z;obtain⟨X,Y,hM,-,-,ac⟩:=be.pick;obtain⟨ps,A,-,-,-,hp⟩:=ac.ex;refine⟨rfl,Wk (vs:=[.nl,.nl]) X hM rfl (by simp[Value.single]) λ U7 L Q E=>?_⟩;refine⟨_,⟨rfl,Ze X E⟩,⟨BH.zero,5,.cl T [.nl,.nl] 25::(A++ps.flatMap (·.2.F)),rfl,.zero (by rw[hG,z]) D1,?_⟩,λ x o G=>by rw[L];exact al.imm x o (W x o G),?_⟩
    .rw[E];refine perm_middle.trans ?_;rw[cons_append,append_assoc];exact hp.cons _
    .rw[Q];exact al.tok.trans ak
   rw[if_neg (by rw[hc];simp)]at z;have bv:x.2∉((b.stys (l.take i)).cas x.1.toNat).af:=by simpa using hc
   have bt:(b.stys (l.take i)).Fr x:=⟨b1,by rw[Bk.stys_len];exact av,b2,by unfold Bk.nc;rw[Bk.stys_len];exact b3,bv⟩;refine⟨_,⟨rfl,a6.rd⟩,?_⟩;refine⟨_,⟨rfl,a7.rd⟩,?_⟩;have bc:=Bk.cas_mem (b:=b.stys (l.take i)) (k:=x.1.toNat) (by rw[Bk.stys_len];exact av);obtain⟨bz,ce⟩:=(ap.ok1 aq.ok1).af_len bc;have bg:=RI (S:=S) (U:=U6) w (b.stys (l.take i)) _ be x.1.toNat x.2 (by rw[Bk.stys_len];exact av) bz O1;rw[bh]at bg;refine⟨Dx.any,bg.mono ?_⟩;rintro v U7⟨bw,L,Q⟩-;have bb:U3.frz.lg U7:=⟨λ x o G=>L x o (al.imm x o (Z.imm x o G)),Zz3,Q.trans (al.tok.trans Z.tok)⟩;refine⟨ba,?_⟩
   conv=>whnf
   exact⟨rfl,i+1,T1,⟨bb,O1,by rw[Wm G,Bk.stys_snoc];exact bw,by rw[Wm G];exact ap.snoc bt,by rw[z,Wm G,Bk.stys_snoc]⟩,L1⟩
  have a9:i=l.length:=by simp at hc;omega
  rw[a9,take_length]at ho ap;rw[a9,take_length,drop_length]at z;have z:b.syF l=if W4 (b.stys l).A then 8 else 0:=z
  refine⟨_,⟨rfl,ae.rd⟩,?_⟩;refine⟨Yt.any,(Qb.ok0 (R:=λ v U'=>v=.int .i64 (if W4 (b.stys l).A then 8 else 0)/\U'.M=.cl T [.nl,.nl] 25::U.M/\U4.frz.lg U'.frz/\Zu U'.frz w (b.stys l)) λ hw=>?_).mono ?_⟩
  .obtain⟨U5,k1,k2,k3,k4⟩:=ho.freeze hw (by rw[Bk.stys_len];omega);exact .prS k1 ((S4 w (b.stys l) (k4.lg Qy) (ap.ok1 aq.ok1).low).mono λ v U'⟨q1,q2⟩=>⟨q1,by rw[q2];exact k2,by rw[q2];exact k3,by rw[q2];exact k4⟩)
  rintro _ U5⟨rfl,ax,ai,bn⟩cf;cases a2:W4 (b.stys l).A with
  |true=>
   refine⟨rfl,rfl,Wk (vs:=[.nl,.nl]) [] ax rfl (by simp[Value.single]) λ U6 an au ab=>?_⟩;refine⟨_,⟨rfl,Ze [] ab⟩,⟨BH.zero,8,[.cl T [.nl,.nl] 25],rfl,.zero (by rw[hG,z,a2];rfl) D1,by rw[ab];exact .refl _⟩,λ x o G=>by rw[an];exact ai.imm x o (W x o G),?_⟩;rw[au];exact ai.tok.trans ak
  |false=>
   repeat refine⟨rfl,?_⟩
   conv=>whnf
   have V:Zo U5 b7 #[.slice w.ra w.rl w.rc,.slice w.ca w.cl w.cc]:=ae.imI ai.imm;have bf:Ju U5 ⟨b7,0,none⟩ [.slice w.ra w.rl w.rc,.slice w.ca w.cl w.cc]:=V.rd;refine⟨_,⟨rfl,by rw[Qu];exact bf⟩,?_⟩;refine⟨rfl,Wk (vs:=[.slice w.ra w.rl w.rc,.slice w.ca w.cl w.cc]) [] ax rfl (by simp[Value.single]) λ U6 an au ab=>?_⟩;refine⟨_,⟨rfl,Ze [] ab⟩,⟨w,0,[.cl T [.slice w.ra w.rl w.rc,.slice w.ca w.cl w.cc] 25],rfl,⟨by rw[hG,z,a2];rfl,by rw[hG,z,a2];exact bn.lg ⟨λ x o G=>by show U6.I x=_;rw[an];exact G,⟨[],rfl⟩,au⟩⟩,by rw[ab];exact .refl _⟩,λ x o G=>by rw[an];exact ai.imm x o (W x o G),?_⟩;rw[au];exact ai.tok.trans ak
 refine bj.post λ v U'⟨⟨w,f,R,e,hS,hp⟩,hI,ht⟩=>?_;refine⟨{ U' with M:=U.M },(Hf hp).trans (Z2 (sublist_append_right _ _)),⟨w,f,e,?_⟩,⟨hI,rfl,ht⟩⟩;exact⟨hS.1,hS.2.lg ⟨λ _ _ h=>h,⟨[],rfl⟩,rfl⟩⟩
def Zdb(h:BH)(b:Bk)(hb:Zu U.frz h b)(bz:h.rl<=h.rc)(l:PrL)(a:Option Addr)(c:Nat)(hl:Qbb U.frz a l)(bx:l.length<=c)(ce:l.length<=1000) :
  Qb S 11 #[h.v,.slice a l.length c] (λ v U'=>(∃(z:BH)(f:Int),v=.tuple #[z.v,.int .i64 f]/\SyO b l U' z f)/\U.le U') U:=by
 have bq:=hb.cs.1;have br:=hb.cl;have a4:b.nc=(h.cl:Int):=by unfold Bk.nc;rw[bq]
 have bj:Qb S 11 #[h.v,.slice a l.length c] (λ v U'=>(∃(z:BH)(f:Int)(R:List Q2),v=.tuple #[z.v,.int .i64 f]/\SyO b l U' z f/\U'.M.Perm (R++U.M))/\(∀x o,U.I x=some o->U'.I x=some o)/\U'.tok=U.tok) U:=by
  refine Qb.of (args:=[_,_]) Zez Qd S1 ?_
  repeat refine⟨rfl,?_⟩
  conv=>whnf
  intro B U1 W hB;have hB:=Zz4 h hB
  conv=>whnf
  intro b4 bt;refine⟨_,.refl _,?_⟩;have au:=Z6 (U:=U1) b4 (.cells #[.nl,.nl] 25);have an:=hB.lg au;refine⟨_,⟨rfl,an.rd⟩,?_⟩;refine⟨Zdx.any,(Qox h b ((hb.lg W.lg.frz2).lg au.frz2) bz).go λ _=>?_⟩;by_cases hf:b.flaw Zk=0
  rotate_left
  .repeat refine⟨rfl,?_⟩
   conv=>whnf
   refine Qe (λ _=>?_) (λ hc=>absurd (by simpa using hc) hf);refine⟨rfl,Zy (vs:=[.nl,.nl]) bt rfl (by simp[Value.single]) λ U2 a2 bo=>?_⟩;refine⟨_,⟨rfl,(show Zo U2 b4 [Value.slice none 0 0,.nl].toArray from bo).rd⟩,?_⟩
   conv=>whnf
   exact⟨⟨BH.zero,_,[],rfl,.zero (by unfold Bk.syG;rw[if_neg hf]) hf,by rw[a2.own,W.own];exact .refl _⟩,λ x o hx=>a2.imm x o (W.imm x o hx),a2.tok.trans W.tok⟩
  have av:=Bk.ok_of hf;have cf:=av.nc;have hG:b.syG l=b.syF l:=by unfold Bk.syG;rw[if_pos hf]
  rw[hf]
  repeat refine⟨rfl,?_⟩
  refine⟨_,⟨rfl,an.rd⟩,?_⟩;refine⟨Ze3.any,(Zer (S:=S) (U:=U1.put b4 (.cells #[.nl,.nl] 25)) h b (hb.lg (W.lg.frz2.trans au.frz2)) av.sml).mono ?_⟩;rintro _ U2⟨⟨E,rfl,bf⟩,X⟩-;have bl:∀x o,U.I x=some o->U2.I x=some o:=λ x o hx=>X.imm x o (W.imm x o hx);have b1:U2.tok=U.tok:=X.tok.trans W.tok;have a7:Zo U2 B #[.slice h.ra h.rl h.rc,.slice h.ca h.cl h.cc]:=an.imI X.imm;have a9:U2.M=.cl b4 [.nl,.nl] 25::U.M:=by rw[X.own];show _::U1.M=_;rw[W.own]
  clear au an X
  conv=>whnf
  intro b7 bu;refine⟨_,.refl _,rfl,HR (vs:=[.slice E.ra E.rl E.rc,.slice E.ca E.cl E.cc]) rfl (by simp[Value.single]) ?_⟩;have ao:∀x o,U2.I x=some o->(U2.put b7 (.cells [.slice E.ra E.rl E.rc,.slice E.ca E.cl E.cc].toArray 25)).I x=some o:=λ _ _ h=>h;have a0:(U2.put b7 (.cells [.slice E.ra E.rl E.rc,.slice E.ca E.cl E.cc].toArray 25)).M=.cl b7 [.slice E.ra E.rl E.rc,.slice E.ca E.cl E.cc] 25::.cl b4 [.nl,.nl] 25::U.M:=by show _::U2.M=_;rw[a9]
  have a5:(U2.put b7 (.cells [.slice E.ra E.rl E.rc,.slice E.ca E.cl E.cc].toArray 25)).tok=U2.tok:=rfl;generalize(U2.put b7 (.cells [.slice E.ra E.rl E.rc,.slice E.ca E.cl E.cc].toArray 25))=U3 at ao a0 a5 ⊢;have bg:Qd6 U3.frz E b:=bf.lg ⟨ao,⟨[],rfl⟩,a5⟩;clear bf a9 bu
  refine⟨Nat,λ i=>[(1,.slice a l.length c),(2,.pb B),(4,.pb b4),(7,.pb b7),(8,.int .i64 i)],
   λ i U'=>(∀x o,U3.I x=some o->U'.I x=some o)/\U'.tok=U.tok/\i<=l.length/\(∃z:BH,U'.M=.obj b7 (.cells ([.slice z.ra z.rl z.rc,.slice z.ca z.cl z.cc]).toArray 25 (0,0))::.cl b4 [.nl,.nl] 25::U.M/\Qd6 U'.frz z (b.stys (l.take i)))/\b.FrL (l.take i)/\b.syF l=(b.stys (l.take i)).syF (l.drop i),λ i=>l.length-i,0,T1,⟨λ _ _ h=>h,a5.trans b1,O1,⟨E,a0,bg⟩,trivial,rfl⟩,?_⟩
  clear a0 bg;rintro i f U4⟨ag,N,hi,⟨z,a1,ab⟩,aq,F⟩;have ax:Je ((i:Int)+1):=I1
  have K:∀x o,U.I x=some o->U4.I x=some o:=λ x o hx=>ag x o (ao x o (bl x o hx));have a6:Zo U4 B #[.slice h.ra h.rl h.rc,.slice h.ca h.cl h.cc]:=a7.imI λ x o hx=>ag x o (ao x o hx);have ap:Ju U4 ⟨b7,0,none⟩ [.slice z.ra z.rl z.rc,.slice z.ca z.cl z.cc]:=Ze [] a1
  repeat refine⟨rfl,?_⟩
  conv=>whnf
  apply Qe<;>intro hc
  .have hlt:i<l.length:=by simpa using hc
   have bm:Qbb U4 a l:=Zd.mem hl K λ r hr=>by cases hr
   obtain⟨ad,x,vs,hx,rfl,cm,rfl,-,aw⟩:=bm.at hlt;rw[Hk hx]at F;have L:∀w:Qa T,U4.le w->w.M=[.obj b7 (.cells ([.slice z.ra z.rl z.rc,.slice z.ca z.cl z.cc]).toArray 25 (0,0))]++.cl b4 [.nl,.nl] 25::U.M:=λ w hw=>by rw[hw.own,a1];rfl
   refine⟨ad,i,⟨rfl,rfl,hlt⟩,_,aw.cell (i:=0) rfl,_,a6.sees3 (o:=1) rfl,I1,?_⟩;refine⟨.bool (Q_ x.1 0 ((h.cl:Int)-1)),λ U' ck _=>?_,?_⟩
   .refine⟨Ll.any,(Za1 _ _ _ _).mono ?_⟩;rintro _ U''⟨rfl,Z⟩-;obtain rfl:=Z.symm;exact⟨rfl,_,.refl _,.refl _⟩
   cases ah:Q_ x.1 0 ((h.cl:Int)-1)with
   |false=>
    conv=>whnf
    intro U5 H _;refine⟨rfl,Wk (vs:=[.nl,.nl]) [.cl b7 [.slice z.ra z.rl z.rc,.slice z.ca z.cl z.cc] 25] (L _ H) rfl (by simp[Value.single]) λ Uz Q V G=>?_⟩;refine⟨_,⟨rfl,Ze [.cl b7 [.slice z.ra z.rl z.rc,.slice z.ca z.cl z.cc] 25] G⟩,?_⟩
    conv=>whnf
    exact⟨⟨BH.zero,6,[.cl b7 [.slice z.ra z.rl z.rc,.slice z.ca z.cl z.cc] 25,.cl b4 [.nl,.nl] 25],rfl,.zero (by rw[hG,F,Bk.syF_out (by rw[Bk.stys_nc,a4,ah];simp)]) D1,by rw[G];exact .refl _⟩,λ y o P=>by rw[Q];exact(λ y o P=>H.imm y o (K y o P)) y o P,by rw[V];exact(H.tok.trans N)⟩
   |true=>
   refine⟨ad,i,⟨rfl,rfl,hlt⟩,_,aw.cell (i:=1) rfl,_,a6.sees3 (o:=1) rfl,I1,?_⟩
   conv=>whnf
   intro U5 H _;refine⟨Ll.any,(Za1 _ _ _ _).mono ?_⟩;rintro _ U''⟨rfl,Z⟩-;obtain rfl:=Z.symm;cases ai:Q_ x.2 0 ((h.cl:Int)-1)with
   |false=>
    refine⟨rfl,Wk (vs:=[.nl,.nl]) [.cl b7 [.slice z.ra z.rl z.rc,.slice z.ca z.cl z.cc] 25] (L _ H) rfl (by simp[Value.single]) λ Uz Q V G=>?_⟩;refine⟨_,⟨rfl,Ze [.cl b7 [.slice z.ra z.rl z.rc,.slice z.ca z.cl z.cc] 25] G⟩,?_⟩
    conv=>whnf
    exact⟨⟨BH.zero,6,[.cl b7 [.slice z.ra z.rl z.rc,.slice z.ca z.cl z.cc] 25,.cl b4 [.nl,.nl] 25],rfl,.zero (by rw[hG,F,Bk.syF_out (by rw[Bk.stys_nc,a4,ai];simp)]) D1,by rw[G];exact .refl _⟩,λ y o P=>by rw[Q];exact(λ y o P=>H.imm y o (K y o P)) y o P,by rw[V];exact(H.tok.trans N)⟩
   |true=>
   have bp:(Q_ x.1 0 ((b.stys (l.take i)).nc-1)&&Q_ x.2 0 ((b.stys (l.take i)).nc-1))=true:=by rw[Bk.stys_nc,a4,ah,ai];rfl
   rw[Bk.syF_in bp]at F
   obtain⟨bh,bi,b5,b6⟩:0<=x.1/\x.1<b.nc/\0<=x.2/\x.2<b.nc:=by
    simp only[Q_,Bool.and_eq_true,decide_eq_true_eq]at ah ai;omega
   have b8:x.1.toNat<b.cs.length:=by unfold Bk.nc at bi;omega
   obtain⟨k,hk⟩:∃k,k=x.1.toNat:=⟨_,rfl⟩;have bw:x.1=(k:Int):=O1
   have ay:k<(b.stys (l.take i)).cs.length:=by rw[Bk.stys_len,hk];exact b8
   have b9:(b.stys (l.take i)).cs.length=z.cl:=ab.v.cs.1;have b2:=ab.lg H.lg.frz2;obtain⟨bk,cas,r,bb,bs,cg,⟨ga,gl,gc,aa,al,ac,rfl,ch,cj,ha,bn,b0⟩,-,bd⟩:=Zd.at b2.w (i:=k) O1;have aj:=Bk.cas_at bb;rw[<- hk,aj]at F;refine⟨_,(ap.lg H.lg).cell (i:=1) rfl,ad,i,⟨rfl,rfl,hlt⟩,_,(aw.lg H.lg).cell (i:=0) rfl,bk,k,⟨bs,bw,O1⟩,_,(bd.lg Qy).cell (i:=3) rfl,ad,i,⟨rfl,rfl,hlt⟩,_,(aw.lg H.lg).cell (i:=1) rfl,?_⟩
   conv=>whnf
   intro U6 h6 _;have ae:=H.trans h6;refine⟨Qop.any,(Qfj aa al ac cas.af ((ha.lg h6.lg.frz2).lg Qy) bn x.2).mono ?_⟩;rintro _ U''⟨rfl,Z⟩-;obtain rfl:=Z.symm
   repeat refine⟨rfl,?_⟩
   conv=>whnf
   refine Qe (λ ak=>?_) (λ ak=>?_)
   .rw[if_pos ak]at F;refine⟨rfl,Wk (vs:=[.nl,.nl]) [.cl b7 [.slice z.ra z.rl z.rc,.slice z.ca z.cl z.cc] 25] (L _ ae) rfl (by simp[Value.single]) λ Uz Q V G=>?_⟩;refine⟨_,⟨rfl,Ze [.cl b7 [.slice z.ra z.rl z.rc,.slice z.ca z.cl z.cc] 25] G⟩,?_⟩
    conv=>whnf
    exact⟨⟨BH.zero,5,[.cl b7 [.slice z.ra z.rl z.rc,.slice z.ca z.cl z.cc] 25,.cl b4 [.nl,.nl] 25],rfl,.zero (by rw[hG,F]) D1,by rw[G];exact .refl _⟩,λ y o P=>by rw[Q];exact(λ y o P=>ae.imm y o (K y o P)) y o P,by rw[V];exact(ae.tok.trans N)⟩
   rw[if_neg (by rw[ak];simp)]at F;have bv:(b.stys (l.take i)).Fr x:=⟨bh,by rw[<- hk];exact ay,b5,by rw[Bk.stys_nc];exact b6,by rw[<- hk,aj];intro hm;rw[contains_iff_mem.2 hm]at ak;cases ak⟩;have Y:=aq.ok1 av.ok1;refine⟨_,⟨rfl,ap.lg ae.lg⟩,ax,i,i+1,⟨rfl,rfl,O1,O1⟩,?_⟩
   conv=>whnf
   intro U7 h7 _;have am:=ae.trans h7
   have hX:Qbb U7.frz (if c=i then some ad else(some ad).map (·.add (i*2))) [x]:=by
    have h1:Qbb U7.frz (some ad) l:=Qbb.lg hl (show U.frz.lg U7.frz from⟨λ y o P=>am.imm y o (K y o P),⟨[],rfl⟩,am.tok.trans N⟩);have h2:=(h1.drop bx (j:=i) O1).take (i:=1) O1
    rwa [Hk hx,take_succ_cons,take_zero]at h2
   refine⟨Qz8.any,?_⟩;rw[show i+1-i=([x]:PrL).length by simp];refine(Qld z (b.stys (l.take i)) (ab.lg am.lg.frz2) (by rw[Bk.stys_len];omega) 5 ⟨λ c hc=>(Y.af_len hc).1,λ c hc=>(Y.af_len hc).2⟩ [x] _ _ hX S1 (λ s hs=>by rw[mem_singleton.1 hs];exact⟨bh,by rw[<- hk];exact ay⟩)).mono ?_;rintro _ U8⟨⟨h2,rfl,b3,-,-⟩,h8⟩-;have az:=am.trans h8;refine⟨rfl,Wk (vs:=[.slice h2.ra h2.rl h2.rc,.slice h2.ca h2.cl h2.cc]) [] (L _ az) rfl (by simp[Value.single]) λ U9 a8 be ba=>?_⟩;refine⟨ax,rfl,i+1,T1,⟨λ y o P=>by rw[a8];exact az.imm y o (ag y o P),by rw[be,az.tok,N],O1,⟨h2,ba,?_⟩,?_,?_⟩,L1⟩
   .rw[Wm hx,Bk.stys_app];exact b3.lg ⟨λ y o P=>by show U9.I y=_;rw[a8];exact P,⟨[],rfl⟩,be⟩
   .rw[Wm hx];exact aq.snoc bv
   .rw[F,Wm hx,Bk.stys_snoc]
  have bc:i=l.length:=by simp at hc;omega
  rw[bc,take_length]at ab aq;rw[bc,take_length,drop_length]at F;have F:b.syF l=if W4 (b.stys l).A then 8 else 0:=F
  have Y:=aq.ok1 av.ok1;have L:U4.M=[.obj b7 (.cells ([.slice z.ra z.rl z.rc,.slice z.ca z.cl z.cc]).toArray 25 (0,0))]++.cl b4 [.nl,.nl] 25::U.M:=a1;refine⟨_,⟨rfl,ap⟩,Q1d.any,(Qh8 z (b.stys l) ab.v Y.low).mono ?_⟩;rintro _ U''⟨rfl,Z⟩-;obtain rfl:=Z.symm;rw[<- Y.loopsE];cases a3:W4 (b.stys l).A with
  |true=>
   refine⟨rfl,Wk (vs:=[.nl,.nl]) [.cl b7 [.slice z.ra z.rl z.rc,.slice z.ca z.cl z.cc] 25] L rfl (by simp[Value.single]) λ Uz Q V G=>?_⟩;refine⟨_,⟨rfl,Ze [.cl b7 [.slice z.ra z.rl z.rc,.slice z.ca z.cl z.cc] 25] G⟩,?_⟩
   conv=>whnf
   exact⟨⟨BH.zero,8,[.cl b7 [.slice z.ra z.rl z.rc,.slice z.ca z.cl z.cc] 25,.cl b4 [.nl,.nl] 25],rfl,.zero (by rw[hG,F,a3];rfl) D1,by rw[G];exact .refl _⟩,λ y o P=>by rw[Q];exact K y o P,by rw[V];exact N⟩
  |false=>
   refine⟨_,⟨rfl,ap⟩,rfl,Wk (vs:=[.slice z.ra z.rl z.rc,.slice z.ca z.cl z.cc]) (c:=[.nl,.nl].toArray) [.obj b7 (.cells ([.slice z.ra z.rl z.rc,.slice z.ca z.cl z.cc]).toArray 25 (0,0))] L rfl (by simp[Value.single]) λ Uz Q V G=>?_⟩;refine⟨_,⟨rfl,Ze [.obj b7 (.cells ([.slice z.ra z.rl z.rc,.slice z.ca z.cl z.cc]).toArray 25 (0,0))] G⟩,?_⟩
   conv=>whnf
   exact⟨⟨z,0,[.obj b7 (.cells ([.slice z.ra z.rl z.rc,.slice z.ca z.cl z.cc]).toArray 25 (0,0)),.obj b4 (.cells ([.slice z.ra z.rl z.rc,.slice z.ca z.cl z.cc]).toArray 25 (0,0))],rfl,⟨by rw[hG,F,a3];rfl,by rw[hG,F,a3];exact ab.v.lg ⟨λ y o P=>by show Uz.I y=_;rw[Q];exact P,⟨[],rfl⟩,V⟩⟩,by rw[G];exact .refl _⟩,λ y o P=>by rw[Q];exact K y o P,V.trans N⟩
 refine bj.post λ v U'⟨⟨z,f,R,e,hS,hp⟩,hI,ht⟩=>?_;refine⟨{ U' with M:=U.M },(Hf hp).trans (Z2 (sublist_append_right _ _)),⟨z,f,e,?_⟩,⟨hI,rfl,ht⟩⟩;exact⟨hS.1,hS.2.lg ⟨λ _ _ h=>h,⟨[],rfl⟩,rfl⟩⟩
def Zgw{U:Qa Tk}(L:U.tok=⟨0,.out,none⟩)(hk:JU U)(h:BH)(b:Bk)(Z:Qd6 U.frz h b)(an:Zex b)(ae:h.rl<=h.rc)(r:Int)(st:Bool)(a:Option Addr)(c:Nat)(l:PrL)(hl:Qbb U.frz a l)(am:l.length<=c) :
  J Zs (Fin prog λ v U'=>v=.bool true/\U.lg U') true (Rf (Frame.enter prog 3 #[h.v,.int .i64 r,.bool st,.slice a l.length c] .normal) []) U:=by
 refine Zds (args:=[_,_,_,_]) (Q:=λ v U'=>v=.bool true/\U.lg U') Zhb Qd K1 S1 (λ v U' q=>q.2.tok.trans L) ?_;have hb:=Z.v;have fin:∀W:Qa Tk,U.lg W->Qb Zs 6 #[] (λ v U'=>v=.bool true/\U'=W) W:=λ W h=>Zac (h.tok.trans L) (hk.lg h)
 repeat refine⟨rfl,?_⟩
 conv=>whnf
 intro B U1 f hB;have hB:=Zz4 h hB;have ai:Zo U1.frz B #[.slice h.ra h.rl h.rc,.slice h.ca h.cl h.cc]:=hB;have N:=hb.lg f.lg.frz2;have aa:=Z.lg f.lg.frz2;have K:∀w:Qa Tk,U1.frz.lg w->Ju w ⟨B,0,none⟩ [.slice h.ra h.rl h.rc,.slice h.ca h.cl h.cc]:=λ w hw=>(ai.lg hw).rd;refine⟨_,⟨rfl,K _ Qy⟩,Zfq.any,(Zd8 h b N an).mono ?_⟩;rintro _ U'⟨⟨g,rfl⟩,G⟩-;obtain rfl:=G.symm;cases g with
 |true=>
  refine⟨M5.any,(fin _ f.lg).go λ _=>?_⟩
  repeat refine⟨rfl,?_⟩
  conv=>whnf
  exact f.lg
 |false=>
 repeat refine⟨rfl,?_⟩
 conv=>whnf
 apply Qe<;>intro hc
 .refine⟨M5.any,(fin _ f.lg).go λ _=>?_⟩
  repeat refine⟨rfl,?_⟩
  conv=>whnf
  exact f.lg
 have av:l.length<=40:=by simp at hc;omega
 have al:JU U1:=hk.lg f.lg;refine⟨_,⟨rfl,K _ Qy⟩,YT.any,(TK (f.tok.trans L) h b N al r st).mono ?_⟩;rintro _ W⟨⟨v1,rfl,xa,xc,rfl,hX,-⟩,T⟩-;refine⟨_,⟨rfl,K _ (Oe Qy T)⟩,Zfr.any,(Zd0 h b (aa.lg T.lg.frz2) ae r st).mono ?_⟩;rintro _ U3⟨⟨ya,yc,rfl,hY⟩,X⟩-;have F:=T.trans X;have aj:Qbb U3.frz xa ((b.stF r st).getD []):=Qbb.lg hX X.lg.frz2;refine⟨YU.any,(TC xa ya _ xc _ yc _ _ (Qbb.lg aj Qy) (Qbb.lg hY Qy) ?_).mono ?_⟩
 .cases e:b.stF r st with
  |none=>show 0<2^60;omega
  |some y=>
   have hF:b.askF r=0:=by
    apply Classical.byContradiction;intro hF;unfold Bk.stF Bk.staF at e;rw[if_neg hF]at e;cases e
   obtain⟨ao,ap,-⟩:=Bk.askF_ok hF;obtain⟨q,rfl⟩:=Int.eq_ofNat_of_zero_le ap;have h1:=Bk.stF_len hF e;have z:=ao.nc;show y.length<2^60;omega
 rintro _ U'⟨rfl,G⟩-;obtain rfl:=G.symm;rw[decide_eq_true rfl]
 repeat refine⟨rfl,?_⟩
 conv=>whnf
 rw[show(!((b.stF r st).isSome==(b.stF r st).isSome))=false by simp]
 repeat refine⟨rfl,?_⟩
 conv=>whnf
 refine Qe (λ hc=>absurd hc S1) (λ _=>?_);have ah:=f.trans F;have au:=F.lg.frz2;have ad:Qbb U3.frz a l:=Qbb.lg hl (f.trans F).lg.frz2;refine⟨_,⟨rfl,K _ (Oe Qy F)⟩,Zey.any,(Zc9 h b (N.lg au) (hk.lg ah.lg) l a c ad O1).mono ?_⟩;rintro _ U4⟨⟨z,f2,rfl,e2,V⟩,ak⟩-
 conv=>whnf
 intro af ab;refine⟨_,.refl _,rfl,Zy (vs:=[.slice z.ra z.rl z.rc,.slice z.ca z.cl z.cc]) ab rfl (by simp[Value.single]) λ U5 Y H=>?_⟩;have H:Zo U5 af #[.slice z.ra z.rl z.rc,.slice z.ca z.cl z.cc]:=H;have M:=F.trans (ak.trans Y);have V:=V.lg Y.lg.frz2;refine⟨_,⟨rfl,K _ (Oe Qy M)⟩,Zez.any,(Zdb h b (N.lg M.lg.frz2) ae l a c (Qbb.lg hl (f.trans M).lg.frz2) am O1).mono ?_⟩;rintro _ U6⟨⟨E,f3,rfl,e3,aq⟩,h6⟩-
 conv=>whnf
 intro ag ac;refine⟨_,.refl _,rfl,Zy (vs:=[.slice E.ra E.rl E.rc,.slice E.ca E.cl E.cc]) ac rfl (by simp[Value.single]) λ U7 h7 I=>?_⟩;have I:Zo U7 ag #[.slice E.ra E.rl E.rc,.slice E.ca E.cl E.cc]:=I;have S:=h6.trans h7;have P:=(f.trans (M.trans S)).lg;refine⟨_,⟨rfl,(H.le S).rd⟩,?_⟩;refine⟨_,⟨rfl,I.rd⟩,?_⟩;refine⟨Ze0.any,(Q7s z E _ (V.lg S.lg.frz2) (aq.lg h7.lg.frz2)).go λ _=>?_⟩;rw[e2,e3]
 repeat refine⟨rfl,?_⟩
 conv=>whnf
 rw[show(b.syG l==b.syG l)=true by simp]
 repeat refine⟨rfl,?_⟩
 conv=>whnf
 refine(fin _ P).mono ?_;rintro _ U'⟨rfl,G⟩-;obtain rfl:=G.symm
 repeat refine⟨rfl,?_⟩
 conv=>whnf
 exact P
end
variable{H:Type}{enc:TypeId×Value->H}{W:World}{r:List Value}{y:DataW H×List MemPlace}{fuel:Nat}{x:DataW H×List MemPlace}{c:Array Value}{v:Value}
section
open Go.TM Go.ChangeShapes Go.WideShapes Go.RowKit
def Zg5(h:WW enc prog W m 46 r=some y)(V:Sz prog 46 y.1) :
  ∃c:Cs,Qdm (Qa.all W) c r/\c.nm.size<2^50:=by
 obtain⟨fs,U,e⟩:=Zb1 Zbz;obtain⟨L,m',f⟩:=Zc6 U h V;rw[Q78]at L;obtain⟨c0,c1,c2,c3,rfl⟩:=Zct L;obtain⟨y0,G,X⟩:=Zdi (i:=0) (ft:=9) (off:=0) f (e 0 _ _ rfl) Zab;obtain⟨y1,I,z1⟩:=Zdi (i:=1) (ft:=3) (off:=1) f (e 1 _ _ rfl) Ax;obtain⟨y2,K,Y⟩:=Zdi (i:=2) (ft:=43) (off:=2) f (e 2 _ _ rfl) Q77;obtain⟨y3,w,Z⟩:=Zdi (i:=3) (ft:=44) (off:=3) f (e 3 _ _ rfl) Rv;simp only[drop_zero,drop_succ_cons,take_succ_cons,take_zero]at G I K w;obtain⟨s,E,T⟩:=Zdu G X;obtain⟨n,F⟩:=qj Mq I;obtain⟨ga,gl,gc,gs,N,S,B⟩:=Zc7 K Y;obtain⟨M,al,ac,af,P,Q,z⟩:=MY w Z;simp only[List.cons.injEq,and_true]at E F;subst E F N P;exact⟨⟨s,n,gs,af⟩,⟨ga,gl,gc,M,al,ac,rfl,S,B,Q,z,Zdt E1 w⟩,T⟩
def Zhq(h:WW enc prog W fuel 25 c.toList=some x)(B:Sz prog 25 x.1) :
  ∃(h:BH)(b:Bk),Value.agg c=h.v/\Qd6 (Qa.all W) h b/\(∀s∈b.rs,s.size<2^50)/\(∀c∈b.cs,c.nm.size<2^50)/\h.rl<=h.rc/\h.cl<=h.cc:=by
 obtain⟨V,Q,z⟩:=Zb1 Zby;obtain⟨L,X,H⟩:=Zc6 Q h B;rw[Q76]at L;obtain⟨c0,E,K⟩:=Ml L;rw[K]at H;obtain⟨Y,F,T⟩:=Zdi (i:=0) (ft:=22) (off:=0) H (z 0 _ _ rfl) Q74;obtain⟨Z,G,U⟩:=Zdi (i:=1) (ft:=23) (off:=1) H (z 1 _ _ rfl) Q75;simp only[drop_zero,drop_succ_cons,take_succ_cons,take_zero]at F G;obtain⟨ra,rl,rc,rs,rfl,N,S⟩:=Ep (R:=λ(s:ByteArray)r=>r=[.string s]/\s.size<2^50) Zcf Zab D1 Zaa F T λ m r y I B=>Zdu I B;obtain⟨ca,cl,cc,f,rfl,E,P⟩:=Ep (R:=λ(c:Cs)r=>Qdm (Qa.all W) c r/\c.nm.size<2^50) Zcg Q78 D1 Q70 G U λ m r y I B=>Zg5 I B;have M:∀s∈rs,s.size<2^50:=λ s e=>let ⟨_,h⟩:=N.all s e;h.2;have w:∀c∈f,c.nm.size<2^50:=λ s e=>let ⟨_,h⟩:=E.all s e;h.2;refine⟨⟨ra,rl,rc,ca,cl,cc⟩,⟨rs,f⟩,by rw[<- Array.toArray_toList (xs:=c),K],⟨⟨N.le (.refl _) λ _ _ h=>h.1,E.le (.refl _) λ _ _ h=>h.1.r,S,P,λ s e=>Nat.lt_of_lt_of_le (M s e) D1,λ s e=>Nat.lt_of_lt_of_le (w s e) D1⟩,E.le (.refl _) λ _ _ h=>h.1⟩,M,w,Zdt Zcf F,Zdt Zcg G⟩
def Zgx:prog.underlying 26=some (.slice 62):=K1
def Zfy:VZ prog 62 [(3,0),(3,1)]=true:=K1
def Qzv:prog.cellsOf 62=2:=K1
def Zen:0<prog.bytesOf 62:=of_decide_eq_true K1
def Zhf(h:WW enc prog W m 62 r=some y)(I:Sz prog 62 y.1):∃s:Int×Int,r=encII s:=by
 obtain⟨N,G,e⟩:=Zb1 Zfy;obtain⟨F,P,E⟩:=Zc6 G h I;rw[Qzv]at F;obtain⟨c0,M,rfl⟩:=Ml F;obtain⟨Q,z,T⟩:=Zdi (i:=0) (ft:=3) (off:=0) E (e 0 _ _ rfl) Ax;obtain⟨S,B,U⟩:=Zdi (i:=1) (ft:=3) (off:=1) E (e 1 _ _ rfl) Ax;simp only[drop_zero,drop_succ_cons,take_succ_cons,take_zero]at z B;obtain⟨K,f⟩:=qj Mq z;obtain⟨L,w⟩:=qj Mq B;simp only[List.cons.injEq,and_true]at f w;subst f w;exact⟨(K,L),rfl⟩
def Zhr(h:WW enc prog W fuel 26 [v]=some x)(e:Sz prog 26 x.1):∃a len cap l,v=.slice a len cap/\Zd (Qa.all W) a len 2 l (λ(x:Int×Int)vs=>vs=encII x)/\len<2^60:=
 Ep (R:=λ(x:Int×Int)vs=>vs=encII x) Zgx Qzv D1 Zen h e λ m r y f e=>Zhf f e
