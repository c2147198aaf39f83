/- Lemmas. No conditions. -/
import Derived.Test.YtnjljnhoaafkiaaGreatDoorC04
set_option linter.all false
set_option maxRecDepth 100000
open List
namespace Go.TM
def Zr3(c:UInt8):IntKind.wrap .i64 (c.toNat:Int)=c.toNat:=by
 have:=c.toNat_lt;simp only[IntKind.wrap,IntKind.signed,IntKind.bits];simp;omega
def Ztt(s:ByteArray):∀(n i:Nat)(r:List UInt8),s.size-i=n->ByteArray.toList.loop s i r=r.reverse++s.data.toList.drop i:=by
 intro n
 induction n with
 |zero=>
  intro i r h;have b:s.size=s.data.toList.length:=(Array.length_toList (xs:=s.data)).symm;rw[ByteArray.toList.loop,if_neg O1,drop_eq_nil_of_le O1];simp
 |succ n f=>
  intro i r h;have b:s.size=s.data.toList.length:=(Array.length_toList (xs:=s.data)).symm;rw[ByteArray.toList.loop,if_pos O1,f (i+1) _ O1]
  have:s.get! i=s.data.toList[i]' O1:=by
   have h1:s.get! i=s.data[i]!:=rfl;rw[h1,getElem!_pos s.data i (by rw[Array.length_toList]at b;omega)];rfl
  rw[this,reverse_cons,append_assoc,drop_eq_getElem_cons (by omega:i<s.data.toList.length)];rfl
def Zpx(s:ByteArray):s.toList=s.data.toList:=by
 have:=Ztt s _ 0 [] rfl;simpa[ByteArray.toList]using this
def Ztw(a b:ByteArray):(a.toList==b.toList)=decide (a=b):=by
 rw[Zpx,Zpx,Bool.eq_iff_iff,beq_iff_eq,decide_eq_true_iff];constructor
 .intro h;exact ByteArray.ext (Array.ext' h)
 .rintro rfl;rfl
def Zoy{κ:Type}[DecidableEq κ](k x:κ)(s:List κ):inS k (s++[x])=(inS k s|| decide (k=x)):=by
 unfold inS;rw[Bool.eq_iff_iff];simp
def Zqf{κ:Type}[DecidableEq κ]{k:κ}{s:List κ}:inS k s=true↔k∈s:=by unfold inS;exact decide_eq_true_iff
def Ztx{s:ByteArray}{i:Nat}{c:UInt8}(h:s.data.toList[i]?=some c):s[i]?=some c:=by
 rw[<- h];have:s[i]?=s.data[i]?:=rfl;rw[this,Array.getElem?_toList]
end Go.TM
namespace Go.Proofs
open Go.TM
variable{T:Type}{S:TM.Sys Tryz.prog T}{U:Qa T}
attribute [local irreducible] Qb Zm Wo
def Zo9(s:ByteArray)(K:s.size<2^60):Qb S 81 #[.string s] (λ v U'=>v=.bool (Zk s)/\U'=U) U:=by
 refine Qb.pure' (Qb.of (args:=[_]) Zob Qe S1 ?_);rw[Zsn];have G:s.size=s.data.toList.length:=(Array.length_toList (xs:=s.data)).symm
 repeat refine⟨rfl,?_⟩
 conv=>whnf
 apply Jt<;>intro z
 .have h0:s.size≠0:=by simpa using z
  repeat refine⟨rfl,?_⟩
  conv=>whnf
  apply Qg<;>intro z
  .have:QP s.size 1 10=false:=by unfold QP;simp at z ⊢;omega
   rw[this]
   repeat refine⟨rfl,?_⟩
   conv=>whnf
   exact(Qa.le.refl _).lg
  .have:QP s.size 1 10=true:=by unfold QP;simp at z ⊢;omega
   rw[this,Bool.true_and];refine⟨Nat,λ i=>[(0,.string s),(3,.int .i64 i)],λ i U'=>U.le U'/\i<=s.size/\Zns s.data.toList 0=Zns (s.data.toList.drop i) i,λ i=>s.size-i,0,T1,⟨.refl _,O1,rfl⟩,?_⟩;rintro i f U0⟨w,I,b⟩
   repeat refine⟨rfl,?_⟩
   conv=>whnf
   apply Qg<;>intro z
   .have hlt:i<s.size:=by simpa using z
    obtain⟨c,hx⟩:∃c,s.data.toList[i]?=some c:=⟨_,getElem?_eq_getElem O1⟩;rw[Hj hx,Zns]at b;refine⟨i,c,⟨rfl,Ztx hx⟩,.bool (Zpl c),λ U' B _=>?_,?_⟩
    .refine⟨pO.any,(Zm2 _ _ _ _).mono ?_⟩;rintro _ U''⟨rfl,F⟩-;exact⟨by rw[Zr3];rfl,_,.refl _,F▸.refl _⟩
    refine⟨i,c,⟨rfl,Ztx hx⟩,?_⟩
    conv=>whnf
    intro H B _;refine⟨pO.any,(Zm2 _ _ _ _).go λ _=>?_⟩;rw[Zr3];have E:Z7 (i+1):=I1
    have next:Zns s.data.toList 0=Zns (s.data.toList.drop (i+1)) (i+1)->i+1<=s.size/\Zns s.data.toList 0=Zns (s.data.toList.drop (i+1)) (i+1):=λ h=>⟨O1,h⟩
    repeat refine⟨rfl,?_⟩
    conv=>whnf
    apply Jt<;>intro z
    .have h1:Zpl c=false:=by simpa using z
     repeat refine⟨rfl,?_⟩
     conv=>whnf
     apply Jt<;>intro z
     .have h2:Zq5 c=true:=by simpa[Zq5]using z
      repeat refine⟨rfl,?_⟩
      conv=>whnf
      apply Qg<;>intro z
      .have h3:i=0:=by simpa using z
       repeat refine⟨rfl,?_⟩
       conv=>whnf
       exact⟨by rw[b,h1,h3];simp,(w.trans B).lg⟩
      .have h3:i≠0:=by simpa using z
       refine⟨E,rfl,i+1,T1,⟨w.trans B,next (by rw[b,h1,h2];simp[h3])⟩,L1⟩
     .have h2:Zq5 c=false:=by simpa[Zq5]using z
      repeat refine⟨rfl,?_⟩
      conv=>whnf
      exact⟨by rw[b,h1,h2];simp,(w.trans B).lg⟩
    .have h1:Zpl c=true:=by simpa using z
     repeat refine⟨rfl,?_⟩
     refine⟨E,rfl,i+1,T1,⟨w.trans B,next (by rw[b,h1];simp)⟩,L1⟩
   .have hge:s.size<=i:=by simpa using z
    rw[drop_eq_nil_of_le O1]at b
    repeat refine⟨rfl,?_⟩
    conv=>whnf
    exact⟨by rw[b];rfl,w.lg⟩
 .have h0:s.size=0:=by simpa using z
  have:QP s.size 1 10=false:=by unfold QP;rw[h0];rfl
  rw[this]
  repeat refine⟨rfl,?_⟩
  conv=>whnf
  exact(Qa.le.refl _).lg
def Qvy(a:Option Addr)(len cap:Nat)(l:List Hs)(hl:Q7 U a len 2 l λ it vs=>vs=[.string it.name,.int .i64 it.cls])(Y:len<2^60)(hn:∀it∈l,it.name.size<2^60) :
  Qb S 50 #[.agg #[.slice a len cap]] (λ v U'=>v=.int .i64 (edF l)/\U'=U) U:=by
 refine Qb.pure' (Qb.of (args:=[_]) Zqu Qe S1 ?_);have M:=hl.1
 repeat refine⟨rfl,?_⟩
 conv=>whnf
 intro b X F hb;have hb:Zi X b #[.slice a len cap]:=hb;refine⟨_,hb.sees3 (o:=0) rfl,?_⟩
 repeat refine⟨rfl,?_⟩
 conv=>whnf
 apply Qg<;>intro E
 .have V:8<l.length:=by rw[M];simp at E;omega
  repeat refine⟨rfl,?_⟩
  conv=>whnf
  exact⟨by unfold edF;rw[if_pos V],F.lg⟩
 have V:¬8<l.length:=by rw[M];simp at E;omega
 have I:edF l=Zcr l []:=by unfold edF;rw[if_neg V]
 rw[I];refine⟨Nat,λ i=>[(1,.pointer (some ⟨b,0,none⟩)),(3,.int .i64 i)],λ i U'=>X.le U'/\i<=len/\Zcr l []=Zcr (l.drop i) ((l.take i).map (·.name)),λ i=>len-i,0,T1,⟨.refl _,O1,rfl⟩,?_⟩;rintro i f U2⟨z,hi,w⟩;refine⟨_,(hb.le z).sees3 (o:=0) rfl,?_⟩
 repeat refine⟨rfl,?_⟩
 conv=>whnf
 apply Qg<;>intro E
 .have hlt:i<len:=by simpa using E
  obtain⟨T,it,vs,hx,rfl,aa,rfl,-,H⟩:=(hl.lg (F.trans z).lg (λ _ _ h=>h)).at hlt;have W:Z7 (i+1):=I1
  rw[Hj hx,Zcr]at w;refine⟨_,(hb.le z).sees3 (o:=0) rfl,T,i,⟨rfl,rfl,hlt⟩,_,H 0 _ rfl,Zob.any,(Zo9 it.name (hn it (mem_of_getElem? hx))).go λ _=>?_⟩
  repeat refine⟨rfl,?_⟩
  conv=>whnf
  apply Qg<;>intro E
  .have h1:Zk it.name=false:=by simpa using E
   repeat refine⟨rfl,?_⟩
   conv=>whnf
   exact⟨by rw[w,h1];rfl,(F.trans z).lg⟩
  have h1:Zk it.name=true:=by simpa using E
  rw[if_pos h1]at w;refine⟨Nat,λ k=>[(1,.pointer (some ⟨b,0,none⟩)),(3,.int .i64 i),(4,.int .i64 k)],λ k U'=>U2.le U'/\k<=i/\inS it.name ((l.take k).map (·.name))=false,λ k=>i-k,0,T1,⟨.refl _,O1,rfl⟩,?_⟩;rintro k f U3⟨B,hk,N⟩;have G:=hb.le (z.trans B)
  repeat refine⟨rfl,?_⟩
  conv=>whnf
  apply Qg<;>intro E
  .have hlk:k<i:=by simpa using E
   obtain⟨_,K,vs,Q,e,Z,rfl,-,P⟩:=(hl.lg (F.trans z).lg (λ _ _ h=>h)).at (show k<len by omega);cases e;refine⟨_,G.sees3 (o:=0) rfl,T,k,⟨rfl,rfl,O1⟩,_,(P 0 _ rfl).lg B.lg,_,G.sees3 (o:=0) rfl,T,i,⟨rfl,rfl,hlt⟩,_,(H 0 _ rfl).lg B.lg,?_⟩
   conv=>whnf
   intro U4 L _
   repeat refine⟨rfl,?_⟩
   conv=>whnf
   rw[Ztw];apply Qg<;>intro E
   .have he:K.name=it.name:=by simpa using E
    have hs:inS it.name ((l.take i).map (·.name))=true:=by
     refine Zqf.2 (mem_map.2 ?_);exact⟨K,mem_of_getElem? (i:=k) (by rw[getElem?_take,if_pos hlk];exact Q),he⟩
    repeat refine⟨rfl,?_⟩
    conv=>whnf
    exact⟨by rw[w,hs];rfl,(F.trans (z.trans (B.trans L))).lg⟩
   .have he:K.name≠it.name:=by simpa using E
    refine⟨I1,?_⟩;refine⟨rfl,k+1,T1,⟨B.trans L,O1,?_⟩,L1⟩;rw[Wf Q,map_append,map_cons,map_nil,Zoy,N];simpa using Ne.symm he
  .have hge:i<=k:=by simpa using E
   obtain rfl:k=i:=O1
   rw[if_neg (by rw[N];simp)]at w;refine⟨_,G.sees3 (o:=0) rfl,T,k,⟨rfl,rfl,hlt⟩,_,(H 1 _ rfl).lg B.lg,pO.any,(Zm2 _ _ _ _).go λ _=>?_⟩
   repeat refine⟨rfl,?_⟩
   conv=>whnf
   apply Qg<;>intro E
   .have h2:QP it.cls 1 45=false:=by simpa using E
    repeat refine⟨rfl,?_⟩
    conv=>whnf
    exact⟨by rw[w,h2];rfl,(F.trans (z.trans B)).lg⟩
   .have h2:QP it.cls 1 45=true:=by simpa using E
    rw[if_pos h2]at w;refine⟨W,rfl,k+1,T1,⟨z.trans B,O1,?_⟩,L1⟩;rw[w,Wf hx,map_append];rfl
 .have hge:len<=i:=by simpa using E
  rw[drop_eq_nil_of_le O1]at w
  repeat refine⟨rfl,?_⟩
  conv=>whnf
  exact⟨by rw[w];rfl,(F.trans z).lg⟩
end Go.Proofs
namespace Go.TM
variable{T:Type}{U:Qa T}
def WJ.isEd_at{U:Qa T}{h:TH}{t:WJ}(ht:GG U h t){e:Int}(z:t.isEd e=true) :
  ∃(k:Nat)(b:Addr)(a:Option Addr)(len cap:Nat),e=k/\k<h.el/\h.ea=some b/\U.sees ((b.add (k*1)).add 0) (.slice a len cap)/\Q7 U a len 2 (t.items e) (λ it vs=>vs=[.string it.name,.int .i64 it.cls]):=by
 have hb:=WJ.isEd_lt z;have B:=ht.eds.1;obtain⟨k,rfl⟩:=Int.eq_ofNat_of_zero_le hb.1;obtain⟨b,x,vs,hx,f,F,⟨v,rfl,a,len,cap,rfl,E⟩,-,w⟩:=ht.eds.at (show k<h.el by omega);refine⟨k,b,a,len,cap,rfl,O1,f,w 0 _ rfl,?_⟩;have:t.items (k:Int)=x:=by unfold WJ.items;rw[if_pos z,getD_eq_getElem?_getD,Int.toNat_natCast,hx];rfl
 rw[this];exact E
def WJ.isItem_btw(t:WJ)(e n:Int):QP n 0 ((t.items e).length-1)=t.isItem e n:=rfl
def WJ.ed2(t:WJ)(e:Int):QP e 0 (t.eds.length-2)=(t.isEd e&&t.isEd (e+1)):=by
 unfold WJ.isEd QP;rw[Bool.eq_iff_iff];simp only[Bool.and_eq_true,decide_eq_true_eq];omega
def Zub(a b c a' f c':Int):ZF [.int .i64 a',.int .i64 f,.int .i64 c'] [.int .i64 a,.int .i64 b,.int .i64 c]=decide ((a,b,c)=(a',f,c')):=by
 simp only[ZF,HT];rw[Bool.eq_iff_iff];simp only[Bool.and_eq_true,beq_iff_eq,decide_eq_true_iff,Prod.mk.injEq,and_true];constructor
 .rintro⟨h1,h2,h3⟩;exact⟨h1.symm,h2.symm,h3.symm⟩
 .rintro⟨h1,h2,h3⟩;exact⟨h1.symm,h2.symm,h3.symm⟩
def mv3(m:YB):Int×Int×Int:=(m.ed,m.fr,m.to)
def kn3(k:YA):Int×Int×Int:=(k.ed,k.one,k.two)
end Go.TM
namespace Go.Proofs
open Go.TM
variable{T:Type}{S:TM.Sys Tryz.prog T}{U:Qa T}
attribute [local irreducible] Qb Zm Wo
set_option maxHeartbeats 1000000 in
def Q4f(h:TH)(t:WJ)(ht:GG U h t)(i:Nat)(m:YB)(hx:t.mvs[i]?=some m) :
  Qb S 51 #[h.v,.int .i64 i] (λ v U'=>v=.int .i64 (t.chkMv m ((t.mvs.take i).map mv3))/\U'=U) U:=by
 refine Qb.pure' (Qb.of (args:=[_,_]) Zqv Qe S1 ?_);have ai:=ht.eds.1;have az:=ht.el;have a4:=ht.mvs.1;have a2:=ht.ml;have aa:i<h.ml:=by have:=(List.getElem?_eq_some_iff.1 hx).1;omega
 obtain⟨ad,B,vs,ac,N,a5,rfl,-,aw⟩:=ht.mvs.at aa;obtain rfl:m=B:=by rw[hx]at ac;exact Option.some.inj ac
 repeat refine⟨rfl,?_⟩
 conv=>whnf
 intro b U1 Q hb;have hb:Zi U1 b #[.slice h.ea h.el h.ec,.slice h.ma h.ml h.mc,.slice h.ka h.kl h.kc]:=hb;refine⟨_,hb.sees3 (o:=1) rfl,ad,i,⟨N,rfl,aa⟩,[.int .i64 m.ed,.int .i64 m.fr,.int .i64 m.to],⟨rfl,aw.lg Q.lg⟩,?_⟩
 conv=>whnf
 intro b5 ak;refine⟨_,.refl _,rfl,Zv (vs:=[.int .i64 m.ed,.int .i64 m.fr,.int .i64 m.to]) ak rfl (by simp[Value.single]) λ U2 T w=>?_⟩;have w:Zi U2 b5 #[.int .i64 m.ed,.int .i64 m.fr,.int .i64 m.to]:=w;have I:=hb.le T;have F:=(Q.trans T).lg;refine⟨_,w.sees3 (o:=0) rfl,_,I.sees3 (o:=0) rfl,I1,?_⟩;refine⟨.bool (t.isEd m.ed&&t.isEd (m.ed+1)),λ U' au _=>?_,?_⟩
 .refine⟨pO.any,(Zm2 _ _ _ _).mono ?_⟩;rintro _ U''⟨rfl,hU⟩-;exact⟨by rw[<- WJ.ed2,ai],_,.refl _,hU▸.refl _⟩
 repeat refine⟨rfl,?_⟩
 conv=>whnf
 apply Jt<;>intro E
 .have hee:t.isEd m.ed=true/\t.isEd (m.ed+1)=true:=by simpa using E
  obtain⟨ke,af,ia,il,ic,Y,ap,ah,ax,am⟩:=WJ.isEd_at ht hee.1;obtain⟨kf,ag,ja,jl,jc,Z,aq,X,ay,ao⟩:=WJ.isEd_at ht hee.2;have al:=am.1;have a0:=ht.items_lt m.ed;have an:=ao.1;have a1:=ht.items_lt (m.ed+1);refine⟨_,w.sees3 (o:=1) rfl,_,I.sees3 (o:=0) rfl,_,w.sees3 (o:=0) rfl,af,ke,⟨ah,Y,ap⟩,_,ax.lg F,I1,?_⟩;refine⟨.bool (t.isItem m.ed m.fr),λ U' au _=>?_,?_⟩
  .refine⟨pO.any,(Zm2 _ _ _ _).mono ?_⟩;rintro _ U''⟨rfl,hU⟩-;exact⟨by rw[<- WJ.isItem_btw,al],_,.refl _,hU▸.refl _⟩
  repeat refine⟨rfl,?_⟩
  conv=>whnf
  apply Jt<;>intro E
  .have hi1:t.isItem m.ed m.fr=true:=by simpa using E
   refine⟨_,w.sees3 (o:=2) rfl,_,I.sees3 (o:=0) rfl,_,w.sees3 (o:=0) rfl,I1,?_⟩;refine⟨ag,kf,⟨X,Z,aq⟩,_,ay.lg F,I1,?_⟩
   conv=>whnf
   intro U3 z _;have L:=F.trans z.lg;refine⟨pO.any,(Zm2 _ _ _ _).go λ _=>?_⟩;rw[show QP m.to 0 ((jl:Int)-1)=t.isItem (m.ed+1) m.to by rw[<- an];rfl]
   repeat refine⟨rfl,?_⟩
   conv=>whnf
   apply Qg<;>intro E
   .have M:t.isItem (m.ed+1) m.to=false:=by simpa using E
    repeat refine⟨rfl,?_⟩
    conv=>whnf
    exact⟨by unfold WJ.chkMv WJ.mvOk;rw[hee.1,hee.2,hi1,M];rfl,L⟩
   have M:t.isItem (m.ed+1) m.to=true:=by simpa using E
   have av:t.mvOk m=true:=by unfold WJ.mvOk;rw[hee.1,hee.2,hi1,M];rfl
   have P:t.chkMv m ((t.mvs.take i).map mv3)=if inS (mv3 m) ((t.mvs.take i).map mv3)then 5 else 0:=by unfold WJ.chkMv;rw[if_pos av];rfl
   rw[P];refine⟨Nat,λ k=>[(1,.int .i64 i),(2,.pointer (some ⟨b,0,none⟩)),(5,.pointer (some ⟨b5,0,none⟩)),(6,.int .i64 k)],λ k U'=>U3.le U'/\k<=i/\inS (mv3 m) ((t.mvs.take k).map mv3)=false,λ k=>i-k,0,T1,⟨.refl _,O1,rfl⟩,?_⟩;rintro k f U4⟨H,hk,K⟩;have W:=I.le (z.trans H);have w:=w.le (z.trans H);have G:=L.trans H.lg
   repeat refine⟨rfl,?_⟩
   conv=>whnf
   apply Qg<;>intro E
   .have hlk:k<i:=by simpa using E
    obtain⟨_,B,vs,ae,e,a3,rfl,-,ab⟩:=ht.mvs.at (show k<h.ml by omega);rw[N]at e;cases e;refine⟨_,W.sees3 (o:=1) rfl,ad,k,⟨N,rfl,O1⟩,[.int .i64 B.ed,.int .i64 B.fr,.int .i64 B.to],⟨rfl,ab.lg G⟩,[.int .i64 m.ed,.int .i64 m.fr,.int .i64 m.to],⟨rfl,w.rd⟩,?_⟩
    conv=>whnf
    intro U5 V _;refine yd Zpt (vs:=[.int .i64 B.ed,.int .i64 B.fr,.int .i64 B.to]) (ws:=[.int .i64 m.ed,.int .i64 m.fr,.int .i64 m.to]) rfl rfl K1 K1 ?_;have aj:ZF [.int .i64 B.ed,.int .i64 B.fr,.int .i64 B.to] [.int .i64 m.ed,.int .i64 m.fr,.int .i64 m.to]=decide (mv3 m=mv3 B):=Zub ..;rw[aj]
    repeat refine⟨rfl,?_⟩
    conv=>whnf
    apply Qg<;>intro E
    .have he:mv3 m=mv3 B:=by simpa using E
     have hs:inS (mv3 m) ((t.mvs.take i).map mv3)=true:=
      Zqf.2 (mem_map.2 ⟨B,mem_of_getElem? (i:=k) (by rw[getElem?_take,if_pos hlk];exact ae),he.symm⟩)
     repeat refine⟨rfl,?_⟩
     conv=>whnf
     exact⟨by rw[hs];rfl,G.trans V.lg⟩
    .have he:mv3 m≠mv3 B:=by simpa using E
     refine⟨I1,?_⟩;refine⟨rfl,k+1,T1,⟨H.trans V,O1,?_⟩,L1⟩;rw[Wf ae,map_append,map_cons,map_nil,Zoy,K,Bool.false_or];exact decide_eq_false he
   .have hge:i<=k:=by simpa using E
    obtain rfl:k=i:=O1
    repeat refine⟨rfl,?_⟩
    conv=>whnf
    exact⟨by rw[K];rfl,G⟩
  .have hi1:t.isItem m.ed m.fr=false:=by simpa using E
   conv=>whnf
   intro U3 z _
   repeat refine⟨rfl,?_⟩
   conv=>whnf
   exact⟨by unfold WJ.chkMv WJ.mvOk;rw[hee.1,hee.2,hi1];rfl,F.trans z.lg⟩
 .have hee:(t.isEd m.ed&&t.isEd (m.ed+1))=false:=Bool.not_inj E;have K:t.mvOk m=false:=by unfold WJ.mvOk;rw[<- Bool.and_assoc,hee];rfl
  rw[hee]
  repeat refine⟨rfl,?_⟩
  conv=>whnf
  intro U3 z _
  repeat refine⟨rfl,?_⟩
  conv=>whnf
  exact⟨by unfold WJ.chkMv;rw[K];rfl,F.trans z.lg⟩
set_option maxHeartbeats 1000000 in
def Zn7(h:TH)(t:WJ)(ht:GG U h t)(i:Nat)(m:YA)(hx:t.kns[i]?=some m) :
  Qb S 52 #[h.v,.int .i64 i] (λ v U'=>v=.int .i64 (t.chkKn m ((t.kns.take i).map kn3))/\U'=U) U:=by
 refine Qb.pure' (Qb.of (args:=[_,_]) Zqw Qe S1 ?_);have ap:=ht.eds.1;have aw:=ht.el;have a0:=ht.kns.1;have ay:=ht.kl;have al:i<h.kl:=by have:=(List.getElem?_eq_some_iff.1 hx).1;omega
 obtain⟨ad,M,vs,an,K,a1,rfl,-,av⟩:=ht.kns.at al;obtain rfl:m=M:=by rw[hx]at an;exact Option.some.inj an
 repeat refine⟨rfl,?_⟩
 conv=>whnf
 intro b U1 af hb;have hb:Zi U1 b #[.slice h.ea h.el h.ec,.slice h.ma h.ml h.mc,.slice h.ka h.kl h.kc]:=hb;refine⟨_,hb.sees3 (o:=2) rfl,ad,i,⟨K,rfl,al⟩,[.int .i64 m.ed,.int .i64 m.one,.int .i64 m.two,.int .i64 m.lev],⟨rfl,av.lg af.lg⟩,?_⟩
 conv=>whnf
 intro b5 aq;refine⟨_,.refl _,rfl,Zv (vs:=[.int .i64 m.ed,.int .i64 m.one,.int .i64 m.two,.int .i64 m.lev]) aq rfl (by simp[Value.single]) λ U2 ag w=>?_⟩;have w:Zi U2 b5 #[.int .i64 m.ed,.int .i64 m.one,.int .i64 m.two,.int .i64 m.lev]:=w;have P:=hb.le ag;have I:=(af.trans ag).lg;refine⟨_,w.sees3 (o:=0) rfl,_,P.sees3 (o:=0) rfl,I1,?_⟩;refine⟨.bool (t.isEd m.ed),λ U' aa _=>?_,?_⟩
 .refine⟨pO.any,(Zm2 _ _ _ _).mono ?_⟩;rintro _ U''⟨rfl,hU⟩-;exact⟨by unfold WJ.isEd;rw[ap],_,.refl _,hU▸.refl _⟩
 repeat refine⟨rfl,?_⟩
 conv=>whnf
 apply Jt<;>intro z
 .have hee:t.isEd m.ed=true:=by simpa using z
  obtain⟨ke,ae,ia,il,ic,W,ak,ai,am,au⟩:=WJ.isEd_at ht hee;have aj:=au.1;have ax:=ht.items_lt m.ed;refine⟨_,w.sees3 (o:=1) rfl,_,P.sees3 (o:=0) rfl,_,w.sees3 (o:=0) rfl,ae,ke,⟨ai,W,ak⟩,_,am.lg I,I1,?_⟩;refine⟨.bool (t.isItem m.ed m.one),λ U' aa _=>?_,?_⟩
  .refine⟨pO.any,(Zm2 _ _ _ _).mono ?_⟩;rintro _ U''⟨rfl,hU⟩-;exact⟨by rw[<- WJ.isItem_btw,aj],_,.refl _,hU▸.refl _⟩
  repeat refine⟨rfl,?_⟩
  conv=>whnf
  apply Jt<;>intro z
  .have hi1:t.isItem m.ed m.one=true:=by simpa using z
   refine⟨_,w.sees3 (o:=2) rfl,_,P.sees3 (o:=0) rfl,_,w.sees3 (o:=0) rfl,ae,ke,⟨ai,W,ak⟩,_,am.lg I,I1,?_⟩
   conv=>whnf
   intro U3 E _;have F:=I.trans E.lg;refine⟨pO.any,(Zm2 _ _ _ _).go λ _=>?_⟩;rw[show QP m.two 0 ((il:Int)-1)=t.isItem m.ed m.two by rw[<- aj];rfl]
   repeat refine⟨rfl,?_⟩
   conv=>whnf
   apply Qg<;>intro z
   .have X:t.isItem m.ed m.two=false:=by simpa using z
    repeat refine⟨rfl,?_⟩
    conv=>whnf
    exact⟨by unfold WJ.chkKn WJ.knOk;rw[hee,hi1,X];rfl,F⟩
   have X:t.isItem m.ed m.two=true:=by simpa using z
   have ab:t.knOk m=true:=by unfold WJ.knOk;rw[hee,hi1,X];rfl
   have ah:=P.le E;have w:=w.le E;refine⟨_,w.sees3 (o:=1) rfl,_,w.sees3 (o:=2) rfl,?_⟩
   repeat refine⟨rfl,?_⟩
   conv=>whnf
   apply Qg<;>intro z
   .have Q:¬m.one<m.two:=by simpa using z
    repeat refine⟨rfl,?_⟩
    conv=>whnf
    exact⟨by unfold WJ.chkKn;rw[if_pos ab,if_neg Q],F⟩
   have Q:m.one<m.two:=by simpa using z
   refine⟨_,w.sees3 (o:=3) rfl,pO.any,(Zm2 _ _ _ _).go λ _=>?_⟩
   repeat refine⟨rfl,?_⟩
   conv=>whnf
   apply Qg<;>intro z
   .have Y:QP m.lev 1 5=false:=by simpa using z
    repeat refine⟨rfl,?_⟩
    conv=>whnf
    exact⟨by unfold WJ.chkKn;rw[if_pos ab,if_pos Q,Y];rfl,F⟩
   have Y:QP m.lev 1 5=true:=by simpa using z
   have ac:t.chkKn m ((t.kns.take i).map kn3)=if inS (kn3 m) ((t.kns.take i).map kn3)then 5 else 0:=by unfold WJ.chkKn;rw[if_pos ab,if_pos Q,if_pos Y];rfl
   rw[ac];refine⟨Nat,λ k=>[(1,.int .i64 i),(2,.pointer (some ⟨b,0,none⟩)),(5,.pointer (some ⟨b5,0,none⟩)),(6,.int .i64 k)],λ k U'=>U3.le U'/\k<=i/\inS (kn3 m) ((t.kns.take k).map kn3)=false,λ k=>i-k,0,T1,⟨.refl _,O1,rfl⟩,?_⟩;rintro k f U4⟨N,hk,V⟩;have H:=ah.le N;have w:=w.le N;have B:=F.trans N.lg
   repeat refine⟨rfl,?_⟩
   conv=>whnf
   apply Qg<;>intro z
   .have hlk:k<i:=by simpa using z
    obtain⟨_,M,vs,ao,e,az,rfl,-,L⟩:=ht.kns.at (show k<h.kl by omega);rw[K]at e;cases e;have Z:Z7 (k+1):=I1
    have next:∀U':Qa T,U4.le U'->kn3 m≠kn3 M->U3.le U'/\k+1<=i/\inS (kn3 m) ((t.kns.take (k+1)).map kn3)=false:=λ U' aa he=>⟨N.trans aa,O1,by
     rw[Wf ao,map_append,map_cons,map_nil,Zoy,V,Bool.false_or];exact decide_eq_false he⟩
    refine⟨_,H.sees3 (o:=2) rfl,ad,k,⟨K,rfl,O1⟩,_,(L 0 _ rfl).lg B,_,w.sees3 (o:=0) rfl,?_⟩
    repeat refine⟨rfl,?_⟩
    conv=>whnf
    apply Jt<;>intro z
    .have e1:M.ed=m.ed:=by simpa using z
     refine⟨_,H.sees3 (o:=2) rfl,ad,k,⟨K,rfl,O1⟩,_,(L 1 _ rfl).lg B,_,w.sees3 (o:=1) rfl,?_⟩
     repeat refine⟨rfl,?_⟩
     conv=>whnf
     apply Jt<;>intro z
     .have e2:M.one=m.one:=by simpa using z
      refine⟨_,H.sees3 (o:=2) rfl,ad,k,⟨K,rfl,O1⟩,_,(L 2 _ rfl).lg B,_,w.sees3 (o:=2) rfl,?_⟩
      conv=>whnf
      intro U5 G _
      repeat refine⟨rfl,?_⟩
      conv=>whnf
      apply Qg<;>intro z
      .have e3:M.two=m.two:=by simpa using z
       have hs:inS (kn3 m) ((t.kns.take i).map kn3)=true:=
        Zqf.2 (mem_map.2 ⟨M,mem_of_getElem? (i:=k) (by rw[getElem?_take,if_pos hlk];exact ao),by unfold kn3;rw[e1,e2,e3]⟩)
       repeat refine⟨rfl,?_⟩
       conv=>whnf
       exact⟨by rw[hs];rfl,B.trans G.lg⟩
      .have e3:M.two≠m.two:=by simpa using z
       refine⟨Z,?_⟩
       conv=>whnf
       exact⟨rfl,k+1,T1,next _ G (λ e=>e3 (by unfold kn3 at e;simp only[Prod.mk.injEq]at e;exact e.2.2.symm)),L1⟩
     .have e2:M.one≠m.one:=by simpa using z
      conv=>whnf
      intro U5 G _
      repeat refine⟨rfl,?_⟩
      refine⟨Z,?_⟩
      conv=>whnf
      exact⟨rfl,k+1,T1,next _ G (λ e=>e2 (by unfold kn3 at e;simp only[Prod.mk.injEq]at e;exact e.2.1.symm)),L1⟩
    .have e1:M.ed≠m.ed:=by simpa using z
     conv=>whnf
     intro U5 G _
     repeat refine⟨rfl,?_⟩
     refine⟨Z,?_⟩
     conv=>whnf
     exact⟨rfl,k+1,T1,next _ G (λ e=>e1 (by unfold kn3 at e;simp only[Prod.mk.injEq]at e;exact e.1.symm)),L1⟩
   .have hge:i<=k:=by simpa using z
    obtain rfl:k=i:=O1
    repeat refine⟨rfl,?_⟩
    conv=>whnf
    exact⟨by rw[V];rfl,B⟩
  .have hi1:t.isItem m.ed m.one=false:=by simpa using z
   conv=>whnf
   intro U3 E _
   repeat refine⟨rfl,?_⟩
   conv=>whnf
   exact⟨by unfold WJ.chkKn WJ.knOk;rw[hee,hi1];rfl,I.trans E.lg⟩
 .have hee:t.isEd m.ed=false:=by simpa using z
  have V:t.knOk m=false:=by unfold WJ.knOk;rw[hee];rfl
  repeat refine⟨rfl,?_⟩
  conv=>whnf
  intro U3 E _
  repeat refine⟨rfl,?_⟩
  conv=>whnf
  exact⟨by unfold WJ.chkKn;rw[V];rfl,I.trans E.lg⟩
end Go.Proofs
namespace Go.TM
def WJ.edsF_at{l:List (List Hs)}{i:Nat}{x:List Hs}(h:l[i]?=some x):Zpi (l.drop i)=if edF x=0 then Zpi (l.drop (i+1))else edF x:=by rw[Hj h,Zpi]
end Go.TM
namespace Go.Proofs
open Go.TM
variable{T:Type}{S:TM.Sys Tryz.prog T}{U:Qa T}
attribute [local irreducible] Qb Zm Wo
set_option maxHeartbeats 1000000 in
def Zka(h:TH)(t:WJ)(ht:GG U h t):Qb S 17 #[h.v] (λ v U'=>v=.int .i64 t.flaw/\U'=U) U:=by
 refine Qb.pure' (Qb.of (args:=[_]) Zqo Qe S1 ?_);have ab:=ht.eds.1;have ae:=ht.el;have Y:=ht.mvs.1;have ag:=ht.ml;have X:=ht.kns.1;have af:=ht.kl;unfold WJ.flaw;rw[WJ.chkItems_eq]
 repeat refine⟨rfl,?_⟩
 conv=>whnf
 intro b U1 V hb;have hb:Zi U1 b #[.slice h.ea h.el h.ec,.slice h.ma h.ml h.mc,.slice h.ka h.kl h.kc]:=hb;refine⟨_,hb.sees3 (o:=0) rfl,pO.any,(Zm2 _ _ _ _).go λ _=>?_⟩;rw[ab]
 repeat refine⟨rfl,?_⟩
 conv=>whnf
 apply Qg<;>intro B
 .have h1:QP h.el 1 3=false:=by simpa using B
  rw[h1]
  repeat refine⟨rfl,?_⟩
  conv=>whnf
  exact V.lg
 have h1:QP h.el 1 3=true:=by simpa using B
 rw[if_pos h1];refine⟨Nat,λ i=>[(1,.pointer (some ⟨b,0,none⟩)),(3,.int .i64 i)],λ i U'=>U1.le U'/\i<=h.el/\Zpi t.eds=Zpi (t.eds.drop i),λ i=>h.el-i,0,T1,⟨.refl _,O1,rfl⟩,?_⟩;rintro i f U2⟨N,hi,E⟩;have K:=hb.le N;have F:=(V.trans N).lg;refine⟨_,K.sees3 (o:=0) rfl,?_⟩
 repeat refine⟨rfl,?_⟩
 conv=>whnf
 apply Qg<;>intro B
 .have hlt:i<h.el:=by simpa using B
  obtain⟨ad,x,vs,hx,aa,Z,⟨v,rfl,a,len,cap,rfl,hr⟩,-,T⟩:=ht.eds.at hlt;rw[WJ.edsF_at hx]at E;refine⟨_,K.sees3 (o:=0) rfl,ad,i,⟨aa,rfl,hlt⟩,[.slice a len cap],⟨rfl,T.lg F⟩,Zqu.any,(Qvy a len cap x (hr.lg F λ _ _ h=>h) (by rw[<- hr.1];exact ht.il x (mem_of_getElem? hx)) (ht.nl x (mem_of_getElem? hx))).go λ _=>?_⟩
  repeat refine⟨rfl,?_⟩
  conv=>whnf
  apply Qg<;>intro B
  .have h2:edF x≠0:=by simpa using B
   rw[if_neg h2]at E
   repeat refine⟨rfl,?_⟩
   conv=>whnf
   exact⟨by rw[E,if_neg h2],F⟩
  .have h2:edF x=0:=by simpa using B
   rw[if_pos h2]at E;refine⟨I1,?_⟩
   conv=>whnf
   exact⟨rfl,i+1,T1,⟨N,O1,E⟩,L1⟩
 have W:h.el<=i:=by simpa using B
 have e0:Zpi t.eds=0:=by rw[E,drop_eq_nil_of_le O1];rfl
 rw[if_pos e0];unfold WJ.chkMoves WJ.chkKins;refine⟨_,K.sees3 (o:=1) rfl,?_⟩
 repeat refine⟨rfl,?_⟩
 conv=>whnf
 apply Qg<;>intro B
 .have h2:16<t.mvs.length:=by rw[Y];simp at B;omega
  rw[if_pos h2]
  repeat refine⟨rfl,?_⟩
  conv=>whnf
  exact F
 have h2:¬16<t.mvs.length:=by rw[Y];simp at B;omega
 rw[if_neg h2];refine⟨Nat,λ i=>[(1,.pointer (some ⟨b,0,none⟩)),(5,.int .i64 i)],λ i U'=>U2.le U'/\i<=h.ml/\t.chkMvs t.mvs []=t.chkMvs (t.mvs.drop i) ((t.mvs.take i).map mv3),λ i=>h.ml-i,0,T1,⟨.refl _,O1,rfl⟩,?_⟩;rintro j f U3⟨P,hj,z⟩;have G:=K.le P;have H:=F.trans P.lg;refine⟨_,G.sees3 (o:=1) rfl,?_⟩
 repeat refine⟨rfl,?_⟩
 conv=>whnf
 apply Qg<;>intro B
 .have hlt:j<h.ml:=by simpa using B
  obtain⟨ad,x,vs,hx,ac,Z,rfl,-,T⟩:=ht.mvs.at hlt;rw[Hj hx,WJ.chkMvs]at z;refine⟨_,⟨rfl,G.rdT λ _ _ h=>h⟩,Zqv.any,(Q4f h t (ht.lg H) j x hx).go λ _=>?_⟩
  repeat refine⟨rfl,?_⟩
  conv=>whnf
  apply Qg<;>intro B
  .have L:t.chkMv x ((t.mvs.take j).map mv3)≠0:=by simpa using B
   rw[if_neg L]at z
   repeat refine⟨rfl,?_⟩
   conv=>whnf
   exact⟨by rw[z,if_neg L],H⟩
  .have L:t.chkMv x ((t.mvs.take j).map mv3)=0:=by simpa using B
   rw[if_pos L]at z;refine⟨I1,?_⟩
   conv=>whnf
   exact⟨rfl,j+1,T1,⟨P,O1,by rw[z,Wf hx,map_append];rfl⟩,L1⟩
 have W:h.ml<=j:=by simpa using B
 have e1:t.chkMvs t.mvs []=0:=by rw[z,drop_eq_nil_of_le O1];rfl
 rw[if_pos e1];refine⟨_,G.sees3 (o:=2) rfl,?_⟩
 repeat refine⟨rfl,?_⟩
 conv=>whnf
 apply Qg<;>intro B
 .have L:10<t.kns.length:=by rw[X];simp at B;omega
  rw[if_pos L]
  repeat refine⟨rfl,?_⟩
  conv=>whnf
  exact H
 have L:¬10<t.kns.length:=by rw[X];simp at B;omega
 rw[if_neg L];refine⟨Nat,λ i=>[(1,.pointer (some ⟨b,0,none⟩)),(7,.int .i64 i)],λ i U'=>U3.le U'/\i<=h.kl/\t.chkKns t.kns []=t.chkKns (t.kns.drop i) ((t.kns.take i).map kn3),λ i=>h.kl-i,0,T1,⟨.refl _,O1,rfl⟩,?_⟩;rintro k f U4⟨Q,hk,w⟩;have M:=G.le Q;have I:=H.trans Q.lg;refine⟨_,M.sees3 (o:=2) rfl,?_⟩
 repeat refine⟨rfl,?_⟩
 conv=>whnf
 apply Qg<;>intro B
 .have hlt:k<h.kl:=by simpa using B
  obtain⟨ad,x,vs,hx,ac,Z,rfl,-,T⟩:=ht.kns.at hlt;rw[Hj hx,WJ.chkKns]at w;refine⟨_,⟨rfl,M.rdT λ _ _ h=>h⟩,Zqw.any,(Zn7 h t (ht.lg I) k x hx).go λ _=>?_⟩
  repeat refine⟨rfl,?_⟩
  conv=>whnf
  apply Qg<;>intro B
  .have h4:t.chkKn x ((t.kns.take k).map kn3)≠0:=by simpa using B
   rw[if_neg h4]at w
   repeat refine⟨rfl,?_⟩
   conv=>whnf
   exact⟨by rw[w],I⟩
  .have h4:t.chkKn x ((t.kns.take k).map kn3)=0:=by simpa using B
   rw[if_pos h4]at w;refine⟨I1,?_⟩
   conv=>whnf
   exact⟨rfl,k+1,T1,⟨Q,O1,by rw[w,Wf hx,map_append];rfl⟩,L1⟩
 have W:h.kl<=k:=by simpa using B
 have e2:t.chkKns t.kns []=0:=by rw[w,drop_eq_nil_of_le O1];rfl
 rw[e2]
 repeat refine⟨rfl,?_⟩
 conv=>whnf
 exact I
def Zqk(h:TH)(t:WJ)(ht:GG U h t):Qb S 16 #[h.v] (λ v U'=>(∃B:Bool,v=.bool B)/\U'=U) U:=by
 refine Qb.pure' (Qb.of (args:=[_]) Zqn Qe S1 ?_);have T:=ht.eds.1;have N:=ht.el
 repeat refine⟨rfl,?_⟩
 conv=>whnf
 intro b K z hb;have hb:Zi K b #[.slice h.ea h.el h.ec,.slice h.ma h.ml h.mc,.slice h.ka h.kl h.kc]:=hb;have w:∃B:Bool,Value.bool true=.bool B:=⟨true,rfl⟩;have loop:h.el<2^60:=O1
 refine⟨_,hb.sees3 (o:=0) rfl,?_⟩
 repeat refine⟨rfl,?_⟩
 conv=>whnf
 apply Jt<;>intro E
 .refine⟨_,hb.sees3 (o:=1) rfl,?_⟩
  repeat refine⟨rfl,?_⟩
  conv=>whnf
  apply Jt<;>intro E
  .refine⟨_,hb.sees3 (o:=2) rfl,?_⟩
   repeat refine⟨rfl,?_⟩
   conv=>whnf
   apply Qg<;>intro E
   .conv=>whnf
    exact⟨w,z.lg⟩
   refine⟨Nat,λ i=>[(1,.pointer (some ⟨b,0,none⟩)),(3,.int .i64 i)],λ i U'=>U'=K/\i<=h.el,λ i=>h.el-i,0,T1,⟨rfl,O1⟩,?_⟩;rintro i f U'⟨F,Z⟩;obtain rfl:=F.symm;refine⟨_,hb.sees3 (o:=0) rfl,?_⟩
   repeat refine⟨rfl,?_⟩
   conv=>whnf
   apply Qg<;>intro E
   .have hlt:i<h.el:=by simpa using E
    obtain⟨L,x,vs,hx,G,W,⟨v,rfl,a,len,cap,rfl,P⟩,-,H⟩:=ht.eds.at hlt;have Y:=ht.il x (mem_of_getElem? hx);have V:=P.1;refine⟨_,hb.sees3 (o:=0) rfl,L,i,⟨G,rfl,hlt⟩,_,(H 0 _ rfl).lg z.lg,?_⟩
    repeat refine⟨rfl,?_⟩
    conv=>whnf
    apply Qg<;>intro E
    .conv=>whnf
     exact⟨w,z.lg⟩
    refine⟨Nat,λ k=>[(1,.pointer (some ⟨b,0,none⟩)),(3,.int .i64 i),(4,.int .i64 k)],λ k U'=>U'=K/\k<=len,λ k=>len-k,0,T1,⟨rfl,O1⟩,?_⟩;rintro k f U'⟨F,hk⟩;obtain rfl:=F.symm;refine⟨_,hb.sees3 (o:=0) rfl,L,i,⟨G,rfl,hlt⟩,_,(H 0 _ rfl).lg z.lg,?_⟩
    repeat refine⟨rfl,?_⟩
    conv=>whnf
    apply Qg<;>intro E
    .have hkt:k<len:=by simpa using E
     obtain⟨M,it,vs,X,rfl,Q,rfl,-,I⟩:=P.at hkt;refine⟨_,hb.sees3 (o:=0) rfl,L,i,⟨G,rfl,hlt⟩,_,(H 0 _ rfl).lg z.lg,M,k,⟨rfl,rfl,hkt⟩,_,(I 0 _ rfl).lg z.lg,?_⟩
     repeat refine⟨rfl,?_⟩
     conv=>whnf
     apply Qg<;>intro E
     .conv=>whnf
      exact⟨w,z.lg⟩
     .refine⟨I1,?_⟩
      conv=>whnf
      exact⟨rfl,k+1,T1,⟨rfl,O1⟩,L1⟩
    .refine⟨I1,?_⟩
     conv=>whnf
     exact⟨rfl,i+1,T1,⟨rfl,O1⟩,L1⟩
   .conv=>whnf
    exact⟨⟨false,rfl⟩,z.lg⟩
  .have E:decide ((h.ml:Int) > 20)=true:=E;rw[E]
   repeat refine⟨rfl,?_⟩
   conv=>whnf
   exact⟨w,z.lg⟩
 .have E:decide ((h.el:Int) > 20)=true:=E;rw[E]
  repeat refine⟨rfl,?_⟩
  conv=>whnf
  exact⟨w,z.lg⟩
end Go.Proofs





