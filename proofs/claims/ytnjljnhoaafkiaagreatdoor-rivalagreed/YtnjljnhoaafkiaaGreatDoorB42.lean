/- Lemmas. No conditions. -/
import Derived.Test.YtnjljnhoaafkiaaGreatDoorB41
set_option linter.all false
set_option maxRecDepth 100000
open List
open Go.Proofs.Tryz (prog)
namespace Go.TM
open Go.Proofs
variable{H:Type}{enc:TypeId×Value->H}{W:World}{m fuel:Nat}{r:List Value}{y:DataW H×List MemPlace}{v:Value}{x:DataW H×List MemPlace}{c:Array Value}
section
open Go.TM Go.ChangeShapes Go.WideShapes Go.RowKit
def jS:HM prog 26 [(22,0),(23,1),(24,2)]=true:=K1
def jT:HM prog 78 [(76,0)]=true:=K1
def jU:HM prog 114 [(9,0),(3,1)]=true:=K1
def NU:HM prog 157 [(3,0),(3,1),(3,2)]=true:=K1
def NV:HM prog 159 [(3,0),(3,1),(3,2),(3,3)]=true:=K1
def jY:prog.underlying 76=some (.slice 114):=K1
def jV:prog.underlying 22=some (.slice 78):=K1
def jW:prog.underlying 23=some (.slice 157):=K1
def jX:prog.underlying 24=some (.slice 159):=K1
def E3:prog.cellsOf 114=2:=K1
def zb:prog.cellsOf 76=1:=K1
def za:prog.cellsOf 26=3:=K1
def E2:prog.cellsOf 78=1:=K1
def DS:prog.cellsOf 157=3:=K1
def DT:prog.cellsOf 159=4:=K1
def qY:prog.cellsOf 22=1:=K1
def qZ:prog.cellsOf 23=1:=K1
def q_:prog.cellsOf 24=1:=K1
def qW:0<prog.bytesOf 78:=of_decide_eq_true K1
def qI:0<prog.bytesOf 157:=of_decide_eq_true K1
def qJ:0<prog.bytesOf 159:=of_decide_eq_true K1
def qX:0<prog.bytesOf 114:=of_decide_eq_true K1
def vA(h:JT enc prog W m 114 r=some y)(F:Sz prog 114 y.1):∃it:Hv,r=[.string it.name,.int .i64 it.cls]/\it.name.size<2^60:=by
 obtain⟨K,E,b⟩:=Pk jU;obtain⟨hl,L,hf⟩:=PI E h F;rw[E3]at hl;obtain⟨c0,I,rfl⟩:=Lh hl;obtain⟨M,B,G⟩:=WV (i:=0) (ft:=9) (off:=0) hf (b 0 _ _ rfl) ME;obtain⟨N,h1,P⟩:=WV (i:=1) (ft:=3) (off:=1) hf (b 1 _ _ rfl) Wk;obtain⟨s,w,rfl,-⟩:=DataW.trod_string pb B;obtain⟨n,f⟩:=Hu Hg h1;simp only[drop_zero,drop_succ_cons,take_succ_cons,take_zero,List.cons.injEq,and_true]at w f;have:=G.str;rw[Array.length_toList]at this;exact⟨⟨s,n⟩,by rw[w,f],this⟩
def jF(h:JT enc prog W m 78 r=some y)(w:Sz prog 78 y.1) :
  ∃l:List Hv,(∃v,r=[v]/\Gt (Qa.all W) v l)/\l.length<2^60/\∀it∈l,it.name.size<2^60:=by
 obtain⟨I,F,b⟩:=Pk jT;obtain⟨hl,K,hf⟩:=PI F h w;rw[E2]at hl;obtain⟨c0,rfl⟩:=length_eq_one_iff.1 hl;obtain⟨L,B,G⟩:=WV (i:=0) (ft:=76) (off:=0) hf (b 0 _ _ rfl) zb;obtain⟨a,len,cap,l,rfl,h2,E⟩:=Y0 (R:=λ(it:Hv)r=>r=[.string it.name,.int .i64 it.cls]/\it.name.size<2^60) jY E3 D1 qX B G λ m r y hy w=>vA hy w;exact⟨l,⟨_,rfl,a,len,cap,rfl,h2.le (.refl _) λ _ _ h=>h.1⟩,by rw[h2.1];exact E,λ it f=>let ⟨_,h⟩:=h2.all it f;h.2⟩
def vB(h:JT enc prog W m 157 r=some y)(G:Sz prog 157 y.1):∃z:YF,r=[.int .i64 z.ed,.int .i64 z.fr,.int .i64 z.to]:=by
 obtain⟨P,F,b⟩:=Pk NU;obtain⟨hl,Q,hf⟩:=PI F h G;rw[DS]at hl;obtain⟨c0,M,N,rfl⟩:=Pp hl;obtain⟨S,E,V⟩:=WV (i:=0) (ft:=3) (off:=0) hf (b 0 _ _ rfl) Wk;obtain⟨T,h1,X⟩:=WV (i:=1) (ft:=3) (off:=1) hf (b 1 _ _ rfl) Wk;obtain⟨U,h2,Y⟩:=WV (i:=2) (ft:=3) (off:=2) hf (b 2 _ _ rfl) Wk;obtain⟨I,f⟩:=Hu Hg E;obtain⟨K,w⟩:=Hu Hg h1;obtain⟨L,B⟩:=Hu Hg h2;simp only[drop_zero,drop_succ_cons,take_succ_cons,take_zero,List.cons.injEq,and_true]at f w B;exact⟨⟨I,K,L⟩,by rw[f,w,B]⟩
def ko(h:JT enc prog W m 159 r=some y)(L:Sz prog 159 y.1):∃z:YE,r=[.int .i64 z.ed,.int .i64 z.one,.int .i64 z.two,.int .i64 z.lev]:=by
 obtain⟨V,K,b⟩:=Pk NV;obtain⟨hl,X,hf⟩:=PI K h L;rw[DT]at hl
 obtain⟨c0,f,rfl,hl'⟩:∃c0 f,r=c0::f/\f.length=3:=by
  cases r with
  |nil=>simp at hl
  |cons a r=>exact⟨a,r,rfl,by simpa using hl⟩
 obtain⟨S,T,U,rfl⟩:=Pp hl';obtain⟨Y,G,z0⟩:=WV (i:=0) (ft:=3) (off:=0) hf (b 0 _ _ rfl) Wk;obtain⟨Z,h1,z1⟩:=WV (i:=1) (ft:=3) (off:=1) hf (b 1 _ _ rfl) Wk;obtain⟨y2,h2,z2⟩:=WV (i:=2) (ft:=3) (off:=2) hf (b 2 _ _ rfl) Wk;obtain⟨y3,I,z3⟩:=WV (i:=3) (ft:=3) (off:=3) hf (b 3 _ _ rfl) Wk;obtain⟨M,w⟩:=Hu Hg G;obtain⟨N,B⟩:=Hu Hg h1;obtain⟨P,E⟩:=Hu Hg h2;obtain⟨Q,F⟩:=Hu Hg I;simp only[drop_zero,drop_succ_cons,take_succ_cons,take_zero,List.cons.injEq,and_true]at w B E F;exact⟨⟨M,N,P,Q⟩,by rw[w,B,E,F]⟩
def Znc(h:JT enc prog W fuel 26 c.toList=some x)(f:Sz prog 26 x.1):∃(h:TH)(t:WK),Value.agg c=h.v/\GK (Qa.all W) h t:=by
 obtain⟨T,I,b⟩:=Pk jS;obtain⟨hl,U,hf⟩:=PI I h f;rw[za]at hl;obtain⟨c0,Q,S,E⟩:=Pp hl;rw[E]at hf;obtain⟨V,B,M⟩:=WV (i:=0) (ft:=22) (off:=0) hf (b 0 _ _ rfl) qY;obtain⟨X,h1,N⟩:=WV (i:=1) (ft:=23) (off:=1) hf (b 1 _ _ rfl) qZ;obtain⟨Y,h2,P⟩:=WV (i:=2) (ft:=24) (off:=2) hf (b 2 _ _ rfl) q_;simp only[drop_zero,drop_succ_cons,take_succ_cons,take_zero]at B h1 h2;obtain⟨ea,el,ec,eds,rfl,w,H⟩:=Y0 (R:=λ(l:List Hv)r=>(∃v,r=[v]/\Gt (Qa.all W) v l)/\l.length<2^60/\∀it∈l,it.name.size<2^60) jV E2 D1 qW B M λ m r y hy f=>jF hy f;obtain⟨ma,ml,mc,mvs,rfl,G,L⟩:=Y0 (R:=λ(z:YF)r=>r=[.int .i64 z.ed,.int .i64 z.fr,.int .i64 z.to]) jW DS D1 qI h1 N λ m r y hy f=>vB hy f;obtain⟨ka,kl,kc,kns,rfl,F,K⟩:=Y0 (R:=λ(z:YE)r=>r=[.int .i64 z.ed,.int .i64 z.one,.int .i64 z.two,.int .i64 z.lev]) jX DT D1 qJ h2 P λ m r y hy f=>ko hy f;refine⟨⟨ea,el,ec,ma,ml,mc,ka,kl,kc⟩,⟨eds,mvs,kns⟩,by rw[<- Array.toArray_toList (xs:=c),E],w.le (.refl _) λ _ _ h=>h.1,G,F,by rw[w.1];exact H,by rw[G.1];exact L,by rw[F.1];exact K,?_,?_⟩
 .intro l hl;obtain⟨_,h⟩:=w.all l hl;exact h.2.1
 .intro l hl;obtain⟨_,h⟩:=w.all l hl;exact h.2.2
