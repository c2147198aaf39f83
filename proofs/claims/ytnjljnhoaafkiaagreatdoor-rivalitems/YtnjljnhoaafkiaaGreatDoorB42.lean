/- Lemmas. No conditions. -/
import Derived.Test.YtnjljnhoaafkiaaGreatDoorB41
set_option linter.all false
open List
open Go.Proofs.Tryz (prog)
set_option maxRecDepth 100000
namespace Go.Proofs
open Go.TM Go.ChangeShapes Go.WideShapes Go.RowKit
section
variable{H:Type}{enc:TypeId×Value->H}{W:World}{fuel:Nat}{x:DataW H×List MemPlace}{v:Value}{cs:List Value}
def wD:HI prog 26 [(22,0),(23,1),(24,2)]=true:=K1
def wE:HI prog 78 [(76,0)]=true:=K1
def wF:HI prog 114 [(9,0),(3,1)]=true:=K1
def NV:HI prog 157 [(3,0),(3,1),(3,2)]=true:=K1
def NW:HI prog 159 [(3,0),(3,1),(3,2),(3,3)]=true:=K1
def wK:prog.underlying 76=some (.slice 114):=K1
def wG:prog.underlying 22=some (.slice 78):=K1
def wH:prog.underlying 23=some (.slice 157):=K1
def wJ:prog.underlying 24=some (.slice 159):=K1
def D_:prog.cellsOf 114=2:=K1
def ze:prog.cellsOf 76=1:=K1
def zd:prog.cellsOf 26=3:=K1
def DZ:prog.cellsOf 78=1:=K1
def DP:prog.cellsOf 157=3:=K1
def DQ:prog.cellsOf 159=4:=K1
def qR:prog.cellsOf 22=1:=K1
def qS:prog.cellsOf 23=1:=K1
def zb:prog.cellsOf 24=1:=K1
def qP:0<prog.bytesOf 78:=of_decide_eq_true K1
def qy:0<prog.bytesOf 157:=of_decide_eq_true K1
def qz:0<prog.bytesOf 159:=of_decide_eq_true K1
def qQ:0<prog.bytesOf 114:=of_decide_eq_true K1
def kL{m:Nat}{r:List Value}{y:DataW H×List MemPlace}(h:JQ enc prog W m 114 r=some y)(E:Sz prog 114 y.1):∃it:Hs,r=[.string it.name,.int .i64 it.cls]/\it.name.size<2^60:=by
 obtain⟨I,B,b⟩:=Pg wF;obtain⟨hl,K,hf⟩:=PG B h E;rw[D_]at hl;obtain⟨c0,G,rfl⟩:=IR hl;obtain⟨L,z,F⟩:=WU (i:=0) (ft:=9) (off:=0) hf (b 0 _ _ rfl) M8;obtain⟨M,h1,N⟩:=WU (i:=1) (ft:=3) (off:=1) hf (b 1 _ _ rfl) Wk;obtain⟨s,w,rfl,-⟩:=DataW.trod_string kq z;obtain⟨n,f⟩:=Hr He h1;simp only[drop_zero,drop_succ_cons,take_succ_cons,take_zero,List.cons.injEq,and_true]at w f;have:=F.str;rw[Array.length_toList]at this;exact⟨⟨s,n⟩,by rw[w,f],this⟩
def jF{m:Nat}{r:List Value}{y:DataW H×List MemPlace}(h:JQ enc prog W m 78 r=some y)(w:Sz prog 78 y.1) :
  ∃l:List Hs,(∃v,r=[v]/\Gn (Qa.all W) v l)/\l.length<2^60/\∀it∈l,it.name.size<2^60:=by
 obtain⟨G,E,b⟩:=Pg wE;obtain⟨hl,I,hf⟩:=PG E h w;rw[DZ]at hl;obtain⟨c0,rfl⟩:=length_eq_one_iff.1 hl;obtain⟨K,z,F⟩:=WU (i:=0) (ft:=76) (off:=0) hf (b 0 _ _ rfl) ze;obtain⟨a,len,cap,l,rfl,h2,B⟩:=KY (R:=λ(it:Hs)r=>r=[.string it.name,.int .i64 it.cls]/\it.name.size<2^60) wK D_ D1 qQ z F λ m r y hy w=>kL hy w;exact⟨l,⟨_,rfl,a,len,cap,rfl,h2.le (.refl _) λ _ _ h=>h.1⟩,by rw[h2.1];exact B,λ it f=>let ⟨_,h⟩:=h2.all it f;h.2⟩
def kM{m:Nat}{r:List Value}{y:DataW H×List MemPlace}(h:JQ enc prog W m 157 r=some y)(G:Sz prog 157 y.1):∃z:YB,r=[.int .i64 z.ed,.int .i64 z.fr,.int .i64 z.to]:=by
 obtain⟨P,F,b⟩:=Pg NV;obtain⟨hl,Q,hf⟩:=PG F h G;rw[DP]at hl;obtain⟨c0,M,N,rfl⟩:=Pn hl;obtain⟨S,E,V⟩:=WU (i:=0) (ft:=3) (off:=0) hf (b 0 _ _ rfl) Wk;obtain⟨T,h1,X⟩:=WU (i:=1) (ft:=3) (off:=1) hf (b 1 _ _ rfl) Wk;obtain⟨U,h2,Y⟩:=WU (i:=2) (ft:=3) (off:=2) hf (b 2 _ _ rfl) Wk;obtain⟨I,f⟩:=Hr He E;obtain⟨K,w⟩:=Hr He h1;obtain⟨L,B⟩:=Hr He h2;simp only[drop_zero,drop_succ_cons,take_succ_cons,take_zero,List.cons.injEq,and_true]at f w B;exact⟨⟨I,K,L⟩,by rw[f,w,B]⟩
def yS{m:Nat}{r:List Value}{y:DataW H×List MemPlace}(h:JQ enc prog W m 159 r=some y)(L:Sz prog 159 y.1):∃z:YA,r=[.int .i64 z.ed,.int .i64 z.one,.int .i64 z.two,.int .i64 z.lev]:=by
 obtain⟨V,K,b⟩:=Pg NW;obtain⟨hl,X,hf⟩:=PG K h L;rw[DQ]at hl
 obtain⟨c0,f,rfl,hl'⟩:∃c0 f,r=c0::f/\f.length=3:=by
  cases r with
  |nil=>simp at hl
  |cons a r=>exact⟨a,r,rfl,by simpa using hl⟩
 obtain⟨S,T,U,rfl⟩:=Pn hl';obtain⟨Y,G,z0⟩:=WU (i:=0) (ft:=3) (off:=0) hf (b 0 _ _ rfl) Wk;obtain⟨Z,h1,z1⟩:=WU (i:=1) (ft:=3) (off:=1) hf (b 1 _ _ rfl) Wk;obtain⟨y2,h2,z2⟩:=WU (i:=2) (ft:=3) (off:=2) hf (b 2 _ _ rfl) Wk;obtain⟨y3,I,z3⟩:=WU (i:=3) (ft:=3) (off:=3) hf (b 3 _ _ rfl) Wk;obtain⟨M,w⟩:=Hr He G;obtain⟨N,B⟩:=Hr He h1;obtain⟨P,E⟩:=Hr He h2;obtain⟨Q,F⟩:=Hr He I;simp only[drop_zero,drop_succ_cons,take_succ_cons,take_zero,List.cons.injEq,and_true]at w B E F;exact⟨⟨M,N,P,Q⟩,by rw[w,B,E,F]⟩
def Zpk{c:Array Value}(h:JQ enc prog W fuel 26 c.toList=some x)(f:Sz prog 26 x.1):∃(h:TH)(t:WJ),Value.agg c=h.v/\GG (Qa.all W) h t:=by
 obtain⟨T,I,b⟩:=Pg wD;obtain⟨hl,U,hf⟩:=PG I h f;rw[zd]at hl;obtain⟨c0,Q,S,E⟩:=Pn hl;rw[E]at hf;obtain⟨V,B,M⟩:=WU (i:=0) (ft:=22) (off:=0) hf (b 0 _ _ rfl) qR;obtain⟨X,h1,N⟩:=WU (i:=1) (ft:=23) (off:=1) hf (b 1 _ _ rfl) qS;obtain⟨Y,h2,P⟩:=WU (i:=2) (ft:=24) (off:=2) hf (b 2 _ _ rfl) zb;simp only[drop_zero,drop_succ_cons,take_succ_cons,take_zero]at B h1 h2;obtain⟨ea,el,ec,eds,rfl,w,H⟩:=KY (R:=λ(l:List Hs)r=>(∃v,r=[v]/\Gn (Qa.all W) v l)/\l.length<2^60/\∀it∈l,it.name.size<2^60) wG DZ D1 qP B M λ m r y hy f=>jF hy f;obtain⟨ma,ml,mc,mvs,rfl,G,L⟩:=KY (R:=λ(z:YB)r=>r=[.int .i64 z.ed,.int .i64 z.fr,.int .i64 z.to]) wH DP D1 qy h1 N λ m r y hy f=>kM hy f;obtain⟨ka,kl,kc,kns,rfl,F,K⟩:=KY (R:=λ(z:YA)r=>r=[.int .i64 z.ed,.int .i64 z.one,.int .i64 z.two,.int .i64 z.lev]) wJ DQ D1 qz h2 P λ m r y hy f=>yS hy f;refine⟨⟨ea,el,ec,ma,ml,mc,ka,kl,kc⟩,⟨eds,mvs,kns⟩,by rw[<- Array.toArray_toList (xs:=c),E],w.le (.refl _) λ _ _ h=>h.1,G,F,by rw[w.1];exact H,by rw[G.1];exact L,by rw[F.1];exact K,?_,?_⟩
 .intro l hl;obtain⟨_,h⟩:=w.all l hl;exact h.2.1
 .intro l hl;obtain⟨_,h⟩:=w.all l hl;exact h.2.2
end
end Go.Proofs

