/- Lemmas. No conditions. -/
import Derived.Test.YtcakpkianonbkaaGreatDoorB44
import Derived.Test.YtcakpkianonbkaaGreatDoorC01
set_option linter.all false
set_option maxRecDepth 100000
open List
namespace Go.TM
variable{T:Type}{U:Qa T}
def Bk.nextsTo(b:Bk)(o:List Nat)(i:Nat):List Nat:=(range i).filter λ i=>b.can o i
def Bk.nextsTo_succ(b:Bk)(o:List Nat)(i:Nat):b.nextsTo o (i+1)=b.nextsTo o i++(if b.can o i then[i]else[]):=by
 unfold Bk.nextsTo;rw[range_succ,filter_append];cases h:b.can o i <;> simp[h]
def Bk.nextsTo_len(b:Bk)(o:List Nat)(i:Nat):(b.nextsTo o i).length<=i:=Nat.le_trans (length_filter_le _ _) S1
def Q2n(o:List Nat)(i:Nat):(o.map λ(k:Nat)=>(k:Int)).contains (i:Int)=o.contains i:=by
 rw[Bool.eq_iff_iff,contains_iff_mem,contains_iff_mem,mem_map];constructor
 .rintro⟨k,hk,e⟩;have:k=i:=O1
  exact this▸hk
 .intro h;exact⟨i,h,rfl⟩
def Bk.pickO_succ(b:Bk)(p:List Nat)(k:Nat)(o:List Nat):b.pickO p (k+1) o=b.pickO p k (o++[(b.nexts o).getD (p.getD o.length 0 % (b.nexts o).length) 0]):=rfl
end Go.TM
namespace Go.Proofs
open Go.TM
variable{T:Type}{S:TM.Sys Tryz.prog T}{U:Qa T}
attribute [local irreducible] Qb Zh Wh
def Qa3(a:Option Addr)(len cap:Nat)(p:List Nat)(z:Qy U a len 1 p λ n vs=>vs=[.int .u16 (n:Int)]/\n<65536)(k:Nat):Qb S 8 #[.slice a len cap,.int .i64 k] (λ v U'=>v=.int .i64 (p.getD k 0:Nat)/\U'=U) U:=by
 refine Qb.of (args:=[_,_]) Zvk Qe S1 ?_;have E:=z.1
 repeat refine⟨rfl,?_⟩
 conv=>whnf
 apply Qd<;>intro w
 .have hlt:k<len:=by simpa using w
  obtain⟨B,n,vs,G,b,F,⟨rfl,H⟩,-,h⟩:=z.at hlt;have e:p.getD k 0=n:=by simp[getD_eq_getElem?_getD,G]
  rw[e];refine⟨B,k,⟨b,rfl,hlt⟩,_,h 0 _ rfl,?_⟩
  repeat refine⟨rfl,?_⟩
  conv=>whnf
  rw[JB O1];exact⟨rfl,rfl⟩
 .have hge:len<=k:=by simp at w;omega
  have e:p.getD k 0=0:=by simp[getD_eq_getElem?_getD,getElem?_eq_none (show p.length<=k by omega)]
  rw[e]
  repeat refine⟨rfl,?_⟩
  conv=>whnf
set_option maxHeartbeats 2000000 in
def Qrn(h:BH)(b:Bk)(hb:Zp U.frz h b)(ae:b.Ok)(pa:Option Addr)(pl pc:Nat)(p:List Nat)(hp:Qy U.frz pa pl 1 p λ n vs=>vs=[.int .u16 (n:Int)]/\n<65536) :
  Qb S 16 #[h.v,.slice pa pl pc] (λ v U'=>J0 U'.frz v ((b.pickO p b.cs.length []).map λ(k:Nat)=>(k:Int))/\U.le U') U:=by
 refine Qb.ints (e:=3) (Qb.of (args:=[_,_]) Zuq Qe S1 ?_);have ak:=hb.cs.1;have bn:=ae.nc
 repeat refine⟨rfl,?_⟩
 conv=>whnf
 intro B U1 h₁ hB;have hB:Zf U1 B #[.slice h.ra h.rl h.rc,.slice h.ca h.cl h.cc]:=hB;have bc:=hb.lg h₁.lg.frz2
 refine⟨List Nat×Value,λ y=>[(1,.slice pa pl pc),(2,.pointer (some ⟨B,0,none⟩)),(5,y.2)],
  λ y U'=>U1.frz.lg U'/\Acc 3 1 y.2 ((y.1.map λ(k:Nat)=>(k:Int)).map λ n=>.int .i64 n) U'.M U.M/\b.Beg y.1/\b.pickO p (h.cl-y.1.length) y.1=b.pickO p h.cl [],λ y=>h.cl-y.1.length,([],.slice none 0 0),T1,⟨Qm,by rw[h₁.own];exact .nil,.nil,rfl⟩,?_⟩
 rintro⟨o,v⟩f V⟨hl,G,I,w⟩;simp only at G I w;obtain⟨oa,oc,rfl,hO⟩:=Df (U:=V) G;rw[length_map]at hO G ⊢;have bo:=I.le;have ah:=hB.imI hl.imm;have bd:=bc.lg hl.frz2;refine⟨_,ah.sees3 (o:=1) rfl,?_⟩
 repeat refine⟨rfl,?_⟩
 conv=>whnf
 apply Qd<;>intro Q
 .have hlt:o.length<h.cl:=by simpa using Q
  refine⟨Nat×Value,λ y=>[(1,.slice pa pl pc),(2,.pointer (some ⟨B,0,none⟩)),(5,.slice oa o.length oc),(6,y.2),(7,.int .i64 y.1)],
   λ y U'=>V.frz.lg U'/\Acc 3 1 y.2 (((b.nextsTo o y.1).map λ(k:Nat)=>(k:Int)).map λ n=>.int .i64 n) U'.M V.M/\y.1<=h.cl,λ y=>h.cl-y.1,(0,.slice none 0 0),T1,⟨Qm,.nil,S1⟩,?_⟩
  rintro⟨i,vc⟩f U3⟨H,z,hi⟩;simp only at z hi;obtain⟨A,hA,-⟩:=z.split;have N:V.lg U3:=⟨λ x o hx=>H.imm x o hx,⟨A,hA⟩,H.tok⟩;obtain⟨ca,cc,rfl,hC⟩:=Df (U:=U3) z;rw[length_map]at hC z ⊢;have ai:=hO.lg N;have W:=ah.lg N;have be:=bd.lg N.frz2;have au:Ze ((i:Int)+1):=I1
  have bf:=b.nextsTo_len o i;refine⟨_,W.sees3 (o:=1) rfl,?_⟩
  repeat refine⟨rfl,?_⟩
  conv=>whnf
  apply Qd<;>intro Q
  .have hlti:i<h.cl:=by simpa using Q
   obtain⟨ad,c,ga,gl,gc,aa,al,ac,hx,am,bp,ax,-,-,ha,bm,av⟩:=be.case hlti;have bb:=Bk.aft1_at hx;have ba:=ae.af c av;have bj:=ha.1;refine⟨tR.any,(Znk oa o.length oc (o.map λ(k:Nat)=>(k:Int)) ai O1 (i:Int)).go λ _=>?_⟩;rw[Q2n]
   refine⟨Nat×Bool,λ y=>[(1,.slice pa pl pc),(2,.pointer (some ⟨B,0,none⟩)),(5,.slice oa o.length oc),(6,.slice ca (b.nextsTo o i).length cc),(7,.int .i64 i),(8,.bool y.2),(9,.int .i64 y.1)],
    λ y U'=>U'=U3/\y.1<=al/\(!o.contains i&&((c.af.take y.1).map Int.toNat).all λ k=>o.contains k)=y.2,λ y=>al-y.1,(0,!o.contains i),T1,⟨rfl,S1,S1⟩,?_⟩
   rintro⟨k,t⟩f U4⟨hU,hk,ht⟩;obtain rfl:=hU.symm;simp only at hk ht;have T:Ze ((k:Int)+1):=I1
   refine⟨_,W.sees3 (o:=1) rfl,ad,i,⟨am,rfl,hlti⟩,_,(ax.lg Qm).cell (i:=3) rfl,?_⟩
   repeat refine⟨rfl,?_⟩
   conv=>whnf
   apply Qd<;>intro Q
   .have hltk:k<al:=by simpa using Q
    obtain⟨a4,n,a2,an,bk,bg⟩:=(ha.lg Qm).at hltk;obtain⟨q,rfl⟩:=Int.eq_ofNat_of_zero_le (ba n (mem_of_getElem? a2)).1
    have P:(!o.contains i&&((c.af.take (k+1)).map Int.toNat).all λ k=>o.contains k)=(t&&o.contains q):=by
     rw[Z3 a2,map_append,all_append,<- Bool.and_assoc,ht];simp
    cases t with
    |false=>
     refine⟨T,?_⟩
     conv=>whnf
     exact⟨rfl,(k+1,false),T1,⟨rfl,by show k+1<=al;omega,P⟩,L1⟩
    |true=>
     refine⟨_,W.sees3 (o:=1) rfl,ad,i,⟨am,rfl,hlti⟩,_,(ax.lg Qm).cell (i:=3) rfl,a4,k,⟨an,rfl,hltk⟩,_,bg,tR.any,(Znk oa o.length oc (o.map λ(k:Nat)=>(k:Int)) ai O1 (q:Int)).go λ _=>?_⟩;rw[Q2n];refine⟨T,?_⟩
     conv=>whnf
     exact⟨rfl,(k+1,o.contains q),T1,⟨rfl,by show k+1<=al;omega,P⟩,L1⟩
   have Z:k=al:=by simp at Q;omega
   rw[take_of_length_le O1,<- bb]at ht;have aj:b.can o i=t:=ht;have E:=b.nextsTo_succ o i;rw[aj]at E;cases t with
   |false=>
    rw[if_neg S1,append_nil]at E;refine⟨au,?_⟩
    conv=>whnf
    exact⟨rfl,(i+1,.slice ca (b.nextsTo o i).length cc),T1,⟨H,by rw[E];exact z,by show i+1<=h.cl;omega⟩,L1⟩
   |true=>
    rw[if_pos rfl]at E
    conv=>whnf
    intro a6 ap;refine Zl ap λ U5 X K=>?_;have K:Zf U5 a6 #[.int .i64 i]:=K
    conv=>whnf
    refine Wy (v:=.slice ca (b.nextsTo o i).length cc) (cs:=((b.nextsTo o i).map λ(k:Nat)=>(k:Int)).map λ n=>.int .i64 n) (new:=[.int .i64 (i:Int)]) (M₀:=V.M) HA rfl rfl (by rw[X.own];exact z) (.inr ⟨_,rfl,K.rd⟩) rfl (by simp[Value.single]) S3 λ v' M' Y _=>?_;have F:Acc 3 1 v' (((b.nextsTo o (i+1)).map λ(k:Nat)=>(k:Int)).map λ n=>.int .i64 n) M' V.M:=by rw[E,map_append,map_append];exact Y
    obtain⟨ta,tl,tc,rfl,-,-⟩:=Acc.src (U:={ U5 with M:=M' }) F;refine⟨au,?_⟩
    conv=>whnf
    exact⟨rfl,(i+1,.slice ta tl tc),T1,⟨⟨λ x o hx=>X.imm x o (H.imm x o hx),⟨_,(append_nil _).symm⟩,X.tok.trans H.tok⟩,F,by show i+1<=h.cl;omega⟩,L1⟩
  have Z:i=h.cl:=by simp at Q;omega
  subst Z;have P:b.nextsTo o h.cl=b.nexts o:=by unfold Bk.nextsTo Bk.nexts;rw[ak]
  rw[P]at hC bf ⊢;have aw:=I.next ae O1;obtain⟨q,ag⟩:∃q,q=p.getD o.length 0 % (b.nexts o).length:=⟨_,rfl⟩;have hq:q<(b.nexts o).length:=ag▸Nat.mod_lt _ aw;obtain⟨az,a0⟩:=Bk.nexts_at hq;obtain⟨m,hm⟩:∃m,h.cl-o.length=m+1:=⟨h.cl-o.length-1,O1⟩;rw[hm,b.pickO_succ,<- ag]at w;obtain⟨x,a3⟩:∃x,x=(b.nexts o).getD q 0:=⟨_,rfl⟩;rw[<- a3]at az a0 w
  have ab:(b.nexts o)[q]?=some x:=by
   rw[a3,getD_eq_getElem?_getD,getElem?_eq_getElem hq];rfl
  obtain⟨a5,x4,a1,ao,bl,bh⟩:=hC.at hq;obtain rfl:(x:Int)=x4:=by rw[getElem?_map,ab]at a1;exact Option.some.inj a1
  have ay:((p.getD o.length 0:Nat):Int).tmod ((b.nexts o).length:Nat)=(q:Nat):=by rw[ag];exact(Int.ofNat_tmod _ _).symm
  refine⟨Zvk.any,(Qa3 pa pl pc p (Qy.lg (R':=λ(n:Nat)vs=>vs=[.int .u16 (n:Int)]/\n<65536) hp ((h₁.lg.frz2.trans (hl.frz2.trans N.frz2)).trans Qm) λ _ _ h=>h) o.length).go λ _=>?_⟩;refine⟨rfl,O1,?_⟩;rw[ay];refine⟨a5,q,⟨ao,rfl,hq⟩,_,bh,?_⟩
  conv=>whnf
  intro a7 aq;refine gC (M':=V.M) (M₀:=A) aq (by rw[hA];exact perm_append_comm) λ U5 a8 bi a9 L=>?_;have L:Zf U5 a7 #[.int .i64 x]:=L
  conv=>whnf
  refine Wy (v:=.slice oa o.length oc) (cs:=(o.map λ(k:Nat)=>(k:Int)).map λ n=>.int .i64 n) (new:=[.int .i64 (x:Int)]) (M₀:=U.M) HA rfl rfl (by rw[a9];exact G) (.inr ⟨_,rfl,L.rd⟩) rfl (by simp[Value.single]) S3 λ v' M' Y _=>?_;have F:Acc 3 1 v' (((o++[x]).map λ(k:Nat)=>(k:Int)).map λ n=>.int .i64 n) M' U.M:=by rw[map_append,map_append];exact Y
  obtain⟨ta,tl,tc,rfl,-,-⟩:=Acc.src (U:={ U5 with M:=M' }) F
  conv=>whnf
  exact⟨rfl,(o++[x],.slice ta tl tc),T1,⟨⟨λ y u hy=>a8 y u (H.imm y u (hl.imm y u hy)),⟨_,(append_nil _).symm⟩,bi.trans (H.tok.trans hl.tok)⟩,F,I.snoc az a0,by simp only[length_append,length_singleton];rw[show h.cl-(o.length+1)=m by omega];exact w⟩,by simp only[length_append,length_singleton];omega⟩
 .have Z:o.length=h.cl:=by simp at Q;omega
  rw[show h.cl-o.length=0 by omega]at w;have w:o=b.pickO p h.cl []:=w
  repeat refine⟨rfl,?_⟩
  conv=>whnf
  exact⟨by rw[ak,<- w];exact G,λ x o hx=>hl.imm x o (h₁.imm x o hx),hl.tok.trans h₁.tok⟩
def Qfe(l:List Nat):List Int:=l.map λ(k:Nat)=>(k:Int)
def Zqg(l:List Nat)(n:Nat):Qfe (l++[n])=Qfe l++[(n:Int)]:=by simp[Qfe]
set_option maxHeartbeats 2000000 in
def Qqu(h:BH)(b:Bk)(hb:Zp U.frz h b)(ao:b.cs.length<=5)(E:CH)(c:QV)(al:X4 U.frz E c)(hL:H4 U)(hf:c.flaw=0)(P:Option Addr)(pl pc:Nat)(p:List Nat)(hp:Qy U.frz P pl 1 p λ n vs=>vs=[.int .u16 (n:Int)]/\n<65536) :
  Qb S 13 #[h.v,E.v,.slice P pl pc] (λ v U'=>(∃(ds:List Nat)(a:Option Addr)(cap:Nat),v=.tuple #[.slice a h.cl cap,.bool true]/\ds.length=h.cl/\(∀d∈ds,d<=36524)/\Z0 U'.frz a h.cl (Qfe ds))/\U.le U') U:=by
 have ai:Qb S 13 #[h.v,E.v,.slice P pl pc] (λ v U'=>∃(ds:List Nat)(v1:Value),v=.tuple #[v1,.bool true]/\ds.length=h.cl/\(∀d∈ds,d<=36524)/\Acc 3 1 v1 ((Qfe ds).map λ n=>.int .i64 n) U'.M U.M/\(∀x o,U.I x=some o->U'.I x=some o)/\U'.tok=U.tok) U:=by
  refine Qb.of (args:=[_,_,_]) Zup Qe S1 ?_;have ap:=hb.cs.1
  repeat refine⟨rfl,?_⟩
  conv=>whnf
  intro B U1 h₁ Z;have Z:Zf U1 B #[.slice h.ra h.rl h.rc,.slice h.ca h.cl h.cc]:=Z
  conv=>whnf
  intro B4 U2 ab Q;have Q:Zf U2 B4 #[.slice E.wa E.wl E.wc,.slice E.sa E.sl E.sc]:=Q;have Z:=Z.le ab;have Y:=h₁.trans ab
  refine⟨List Nat×Value,λ y=>[(2,.slice P pl pc),(3,.pointer (some ⟨B,0,none⟩)),(4,.pointer (some ⟨B4,0,none⟩)),(8,y.2),(9,.int .i64 y.1.length)],
   λ y U'=>U2.frz.lg U'/\y.1.length<=h.cl/\(∀d∈y.1,d<=36524)/\Acc 3 1 y.2 ((Qfe y.1).map λ n=>.int .i64 n) U'.M U.M,λ y=>h.cl-y.1.length,([],.slice none 0 0),T1,⟨Qm,S1,S1,by rw[Y.own];exact .nil⟩,?_⟩
  rintro⟨ds,v⟩f X⟨H,K,hd,G⟩;simp only at K hd G;obtain⟨sa,sl,sc,rfl,av,-⟩:=G.src;have am:Ze ((ds.length:Int)+1):=I1
  have aj:Zf X B #[.slice h.ra h.rl h.rc,.slice h.ca h.cl h.cc]:=Z.imI H.imm;have aa:Zf X B4 #[.slice E.wa E.wl E.wc,.slice E.sa E.sl E.sc]:=Q.imI H.imm;have N:U.frz.lg X.frz:=Y.lg.frz2.trans H.frz2;have ak:H4 X:=Zf.imI hL N.imm;have W:∀w:Qa T,X.lg w->Qy w P pl 1 p λ n vs=>vs=[.int .u16 (n:Int)]/\n<65536:=λ w hw=>Qy.lg (R':=λ(n:Nat)vs=>vs=[.int .u16 (n:Int)]/\n<65536) hp ((N.trans Qm).trans hw) λ _ _ h=>h;refine⟨_,aj.sees3 (o:=1) rfl,?_⟩
  repeat refine⟨rfl,?_⟩
  conv=>whnf
  apply Qd<;>intro hc
  rotate_left
  .have hge:ds.length=h.cl:=by simp at hc;omega
   repeat refine⟨rfl,?_⟩
   conv=>whnf
   exact⟨ds,_,rfl,hge,hd,G,λ x o hx=>N.imm x o hx,N.tok⟩
  have aq:ds.length<h.cl:=by simpa using hc
  have ea:(2:Int)*(ds.length:Int)=((2*ds.length:Nat):Int):=O1
  have eb:((2*ds.length:Nat):Int)+1=((2*ds.length+1:Nat):Int):=O1
  have ec:(12:Int)+(ds.length:Int)=((12+ds.length:Nat):Int):=O1
  have r1:((p.getD (2*ds.length) 0:Nat):Int).tmod 1000=((p.getD (2*ds.length) 0 % 1000:Nat):Int):=Ou _ 1000;have r2:((p.getD (2*ds.length+1) 0:Nat):Int).tmod 40=((p.getD (2*ds.length+1) 0 % 40:Nat):Int):=Ou _ 40;have r3:((p.getD (12+ds.length) 0:Nat):Int).tmod 3=((p.getD (12+ds.length) 0 % 3:Nat):Int):=Ou _ 3;have m1:p.getD (2*ds.length) 0 % 1000<1000:=Nat.mod_lt _ O1;have m2:p.getD (2*ds.length+1) 0 % 40<40:=Nat.mod_lt _ O1;have m3:p.getD (12+ds.length) 0 % 3<3:=Nat.mod_lt _ O1;refine⟨_,⟨rfl,aa.rd⟩,?_⟩;refine⟨by show Ze (2*(ds.length:Int));unfold Ze;omega,?_⟩;rw[ea];refine⟨.int .i64 (p.getD (2*ds.length) 0:Nat),λ U' z _=>?_,?_⟩
  .refine⟨Zvk.any,(Qa3 P pl pc p (W _ z.lg) (2*ds.length)).mono ?_⟩;rintro _ U''⟨rfl,F⟩-;obtain rfl:=F.symm;exact⟨rfl,_,.refl _,.refl _⟩
  refine⟨rfl,D1,?_⟩;rw[r1];refine⟨by show Ze (2*(ds.length:Int));unfold Ze;omega,?_⟩;rw[ea];refine⟨I1,?_⟩;rw[eb];refine⟨.int .i64 (p.getD (2*ds.length+1) 0:Nat),λ U' z _=>?_,?_⟩
  .refine⟨Zvk.any,(Qa3 P pl pc p (W _ z.lg) (2*ds.length+1)).mono ?_⟩;rintro _ U''⟨rfl,F⟩-;obtain rfl:=F.symm;exact⟨rfl,_,.refl _,.refl _⟩
  refine⟨rfl,D1,?_⟩;rw[r2];refine⟨by show Ze (12+(ds.length:Int));unfold Ze;omega,?_⟩;rw[ec];refine⟨.int .i64 (p.getD (12+ds.length) 0:Nat),λ U' z _=>?_,?_⟩
  .refine⟨Zvk.any,(Qa3 P pl pc p (W _ z.lg) (12+ds.length)).mono ?_⟩;rintro _ U''⟨rfl,F⟩-;obtain rfl:=F.symm;exact⟨rfl,_,.refl _,.refl _⟩
  refine⟨rfl,D1,?_⟩;rw[r3];generalize p.getD (2*ds.length) 0 % 1000=q1 at m1 ⊢;generalize p.getD (2*ds.length+1) 0 % 40=q2 at m2 ⊢;generalize p.getD (12+ds.length) 0 % 3=q3 at m3 ⊢;refine⟨λ v U'=>∃e:Nat,v=.tuple #[.int .i64 e,.int .i64 0]/\e<=36524,λ v y1 y2 hh _=>hh,λ U' z _=>?_,λ v hv=>?_⟩
  .refine⟨uD.any,(Zqh E c (al.lg (N.trans z.lg.frz2)) (ak.lg z.lg) hf q3 q1 q2 O1 O1 O1).mono ?_⟩;rintro _ U''⟨⟨e,rfl,he⟩,F⟩-;obtain rfl:=F.symm;exact⟨_,.refl _,⟨e,rfl,he.le⟩,.refl _⟩
  obtain⟨_,-,-,e,rfl,he⟩:=hv
  conv=>whnf
  rintro U4 ac -;have d1:decide ((e:Int)<0)=false:=decide_eq_false O1;have d2:decide ((e:Int) > 36524)=false:=decide_eq_false O1
  repeat refine⟨rfl,?_⟩
  conv=>whnf
  rw[d1]
  repeat refine⟨rfl,?_⟩
  conv=>whnf
  rw[d2]
  conv=>whnf
  intro bn L;refine Zl L λ U5 ad L=>?_;have L:Zf U5 bn #[.int .i64 e]:=L;have af:=H.trans (ac.trans ad).lg
  conv=>whnf
  refine Wy (v:=.slice sa sl sc) (cs:=(Qfe ds).map λ n=>.int .i64 n) (new:=[.int .i64 (e:Int)]) (M₀:=U.M) HA rfl rfl (by rw[ad.own,ac.own];exact G) (.inr ⟨_,rfl,L.rd⟩) rfl (by simp[Value.single]) (by simp[Qfe];omega) λ v' M' ae _=>?_;obtain⟨ta,tl,tc,rfl,-,-⟩:=Acc.src (U:={ U5 with M:=M' }) ae;refine⟨am,?_⟩
  conv=>whnf
  exact⟨rfl,(ds++[e],.slice ta tl tc),⟨rfl,rfl,rfl,rfl,by show Value.int .i64 ((ds.length:Int)+1)=.int .i64 (((ds++[e]).length:Nat):Int);simp,trivial⟩,⟨⟨af.imm,⟨_,(append_nil _).symm⟩,af.tok⟩,S3,λ d V=>(mem_append.1 V).elim (hd d) λ V=>by rw[mem_singleton.1 V];exact he,by show Acc 3 1 _ ((Qfe (ds++[e])).map _) _ _;rw[Zqg,map_append];exact ae⟩,by show _-(ds++[e]).length<_-_;simp;omega⟩
 refine ai.sep λ v U' hs⟨ds,v1,hv,K,hd,ha,hI,ht⟩=>?_;obtain⟨U'',k1,k2,a,len,cap,rfl,hl,ah,an,_⟩:=ha.freeze hs hI ht;have ag:h.cl=len:=by rw[<- K];simpa[Qfe]using hl
 subst ag;have hi:=YS ah an;have au:((Qfe ds).map λ n=>Value.int .i64 n).length=h.cl:=by simp[Qfe,K]
 exact⟨U'',k1,⟨ds,a,cap,hv,K,hd,by rw[show(Qfe ds).length=h.cl by simp[Qfe,K]]at hi;exact hi⟩,k2⟩
end Go.Proofs
namespace Go.TM
variable{T:Type}{P:Program}{S:Sys P T}
structure Hlr(U:Qa T)(b:Nat)(e:TypeId)(c:Array Value)(U':Qa T):Prop where
 imm:∀x o,U.I x=some o->U'.I x=some o
 own:U'.M=.obj b (.cells c e (0,0))::U.M
 tok:U'.tok=U.tok
 new:U.I b=none
def Hlr.le{U U' U'':Qa T}{b:Nat}{e:TypeId}{c:Array Value}(h:Hlr U b e c U')(k:U'.le U''):Hlr U b e c U'':=⟨λ x o i=>k.imm x o (h.imm x o i),k.own.trans h.own,k.tok.trans h.tok,h.new⟩
def Hlr.frz2{U U':Qa T}{b:Nat}{e:TypeId}{c:Array Value}(h:Hlr U b e c U'):U.frz.lg U'.frz:=⟨h.imm,⟨[],rfl⟩,h.tok⟩
def Hlr.frz1{U U':Qa T}{b:Nat}{e:TypeId}{c:Array Value}(h:Hlr U b e c U'):U.frz.lg U':=⟨h.imm,⟨_,(append_nil _).symm⟩,h.tok⟩
def Hlr.made{U U':Qa T}{b:Nat}{e:TypeId}{c:Array Value}(h:U.le U')(z:U'.free b):Hlr U b e c (U'.put b (.cells c e)):=by
 refine⟨h.imm,by show _::U'.M=_;rw[h.own],h.tok,?_⟩;cases w:U.I b with
 |none=>rfl
 |some o=>have:=h.imm b o w;rw[z.1]at this;cases this
def Hlr.write{U U':Qa T}{b:Nat}{e:TypeId}{c:Array Value}{vs:List Value}{Q:Qa T->Prop}(h:Hlr U b e c U')(z:c.size=vs.length)(E:∀v∈vs,v.single=true)(B:∀w,U.le w->Zf w b vs.toArray->Q w):ZB ⟨b,0,none⟩ vs 0 (λ U'=>∃w,Qx U' w/\Q w) U':=by
 refine Oa [] vs 0 c U' h.own E O1 ?_;rw[KM z];refine⟨_,Wi (b:=b) (M':=U.M) (Perm.refl _),B _ ⟨λ x o i=>?_,rfl,h.tok⟩ Zf.new⟩;show JF U'.I b _ x=_;unfold JF;rw[if_neg]
 .exact h.imm x o i
 .rintro rfl;rw[h.new]at i;cases i
end Go.TM
namespace Go.TM
variable{T:Type}{P:Program}{S:Sys P T}{U U' U'':Qa T}
def Qx0{fn:FuncId}{ro:Option Nat}{N:Nat}{mu dets:List Nat}{c:Code}{l:List St}{Q:Ex->Act->Qa T->Prop}{a:Act}{f:Fm}{ds:List Deferred}(G:FR N a f ds)(H:P.follows .mixedOrders=true)(F:clean P mu N dets c=.reg l)
  (h:(∃w,U.ok w)->∃b,Qx U b/\JV S ro l (λ f ds U=>∀a',FR N a' f ds->Q .normal a' U) f ds b):Zv S fn ro c Q a U:=
 Zvx λ K=>by
  obtain⟨b,I,h⟩:=h K;refine sI I (Zv.mono (GH (mu:=mu) (dets:=dets) (n:=λ f ds U=>∀a',FR N a' f ds->Q .normal a' U) (x:=λ _ _ _ _=>False) (r:=λ _ _ _=>False) H c G (by rw[F];exact h)) ?_);rintro e a' U'⟨L,E,z,B⟩;cases e with
  |normal=>exact B a' z
  |exit i=>exact B.elim
  |ret=>exact B.elim
def Qg3{m:Nat}:∀{L:List (List Value)},(∀r∈L,r.length=m)->L.flatten.length=L.length*m
 |[],_=>S1
 |r::L,h=>by
  rw[flatten_cons,length_append,h r (mem_cons_self ..),Qg3 λ x b=>h x (mem_cons_of_mem _ b),length_cons,Nat.succ_mul];omega
def Qpm{m:Nat}:∀{L:List (List Value)},(∀r∈L,r.length=m)->∀{j k:Nat}{r:List Value},L[j]?=some r->k<m->L.flatten[j*m+k]?=r[k]?
 |[],_,j,k,r,b,_=>by simp at b
 |a::L,h,0,k,r,b,e=>by
  simp at b;subst b;rw[flatten_cons,Nat.zero_mul,Nat.zero_add,getElem?_append_left (by rw[h a (mem_cons_self ..)];exact e)]
 |a::L,h,j+1,k,r,b,e=>by
  simp at b;have w:=h a (mem_cons_self ..);rw[flatten_cons,getElem?_append_right (by rw[w,Nat.succ_mul];omega),w,show(j+1)*m+k-m=j*m+k by rw[Nat.succ_mul];omega];exact Qpm (λ x z=>h x (mem_cons_of_mem _ z)) b e
def Qd3(U:Qa T)(rows:List (List Value))(cs:List Cs):Prop:=rows.length=cs.length/\∀(i:Nat)(c:Cs),cs[i]?=some c->∃r,rows[i]?=some r/\Gg U.frz c r
def Qd3.lg{rows:List (List Value)}{cs:List Cs}(h:Qd3 U rows cs)(k:U.frz.lg U'.frz):Qd3 U' rows cs:=⟨h.1,λ i c b=>let ⟨r,e,hr⟩:=h.2 i c b;⟨r,e,hr.lg k⟩⟩
def Qd3.nil:Qd3 U [] []:=⟨rfl,λ i c h=>by simp at h⟩
def Qd3.snoc{rows:List (List Value)}{cs:List Cs}{c:Cs}{r:List Value}(h:Qd3 U rows cs)(z:Gg U.frz c r):Qd3 U (rows++[r]) (cs++[c]):=by
 refine⟨by simp[h.1],λ i x b=>?_⟩;rw[getElem?_append]at b;split at b
 .rename_i hlt;obtain⟨B,e,w⟩:=h.2 i x b;exact⟨B,by rw[getElem?_append_left (by rw[h.1];exact hlt)];exact e,w⟩
 .rename_i hge;have:i=cs.length:=by have:=(List.getElem?_eq_some_iff.1 b).1;simp at this;omega
  subst this;simp at b;subst b;exact⟨r,by rw[<- h.1];simp,z⟩
def Qd3.row{rows:List (List Value)}{cs:List Cs}(h:Qd3 U rows cs):∀r∈rows,r.length=4:=by
 intro r z;obtain⟨i,w⟩:=getElem?_of_mem z;have b:i<cs.length:=by rw[<- h.1];exact(List.getElem?_eq_some_iff.1 w).1
 obtain⟨B,e,ga,gl,gc,aa,al,ac,rfl,-⟩:=h.2 i _ (getElem?_eq_getElem b);rw[w]at e;cases e;rfl
def Qd3.rows{rows:List (List Value)}{cs:List Cs}{a:Option Addr}(h:Qd3 U rows cs)(M:Src U.frz a rows.flatten)(z:∀b,a=some b->b.spot=none):Qy U.frz a cs.length 4 cs (Gg U.frz):=by
 refine⟨rfl,λ i c H=>?_⟩;obtain⟨r,e,L⟩:=h.2 i c H;have F:=h.row r (mem_of_getElem? e);rcases M with⟨_,K⟩|⟨b,E,w⟩
 .have h1:=Qg3 h.row;rw[K]at h1;have N:=(List.getElem?_eq_some_iff.1 e).1;simp at h1;omega
 .have hs0:=z b E;refine⟨b,r,E,hs0,L,F,λ j v G=>?_⟩;have I:j<4:=by rw[<- F];exact(List.getElem?_eq_some_iff.1 G).1
  have B:=w (i*4+j) v (by rw[Qpm h.row e I];exact G);obtain⟨bb,P,Q⟩:=b;cases hs0;rw[Qp]at B;rw[Qp,Qp,Nat.add_assoc];exact B
def HqV(w:Qa T)(R:Qa T->Prop)(b:Nat)(e:TypeId)(z:Array Value)(U':Qa T):Prop:=∃h,w.le h/\R h/\Hlr h b e z U'
def HqV.le{w:Qa T}{R:Qa T->Prop}{b:Nat}{e:TypeId}{z:Array Value}(h:HqV w R b e z U')(k:U'.le U''):HqV w R b e z U'':=let ⟨d,h1,h2,h3⟩:=h;⟨d,h1,h2,h3.le k⟩
def HqV.frz{w:Qa T}{R:Qa T->Prop}{b:Nat}{e:TypeId}{z:Array Value}(h:HqV w R b e z U'):w.frz.lg U':=let ⟨_,h1,_,h3⟩:=h;h1.lg.frz2.trans h3.frz1
def HqV.of{w:Qa T}{R:Qa T->Prop}{b:Nat}{e:TypeId}{z:Array Value}(h:Hlr w b e z U')(E:U'.le U'')(G:WN U'')(F:R { U'' with M:=w.M }):HqV w R b e z U'':=by
 have B:=h.le E;refine⟨{ U'' with M:=w.M },⟨B.imm,rfl,B.tok⟩,F,⟨λ _ _ h=>h,B.own,rfl,?_⟩⟩;exact G (.obj b (.cells z e (0,0))) (by rw[B.own];exact mem_cons_self ..)
end Go.TM
namespace Go.Proofs
open Go.TM
variable{T:Type}{S:TM.Sys Tryz.prog T}{U:Qa T}
attribute [local irreducible] Qb Zh Wh
def Qd8(U:Qa T)(s:Int)(b:s=0\/s=1\/s=2)(is:Bool):Qb S 17 #[.int .i64 s,.bool is] (λ v U'=>v=.bool (s==0|| ((s==1)==is))/\U'=U) U:=by
 refine Qb.of (args:=[_,_]) Zur Qe S1 ?_;rcases b with rfl|rfl|rfl
 .repeat refine⟨rfl,?_⟩
  conv=>whnf
 .cases is
  .repeat refine⟨rfl,?_⟩
   conv=>whnf
  .repeat refine⟨rfl,?_⟩
   conv=>whnf
 .cases is
  .repeat refine⟨rfl,?_⟩
   conv=>whnf
  .repeat refine⟨rfl,?_⟩
   conv=>whnf
end Go.Proofs

