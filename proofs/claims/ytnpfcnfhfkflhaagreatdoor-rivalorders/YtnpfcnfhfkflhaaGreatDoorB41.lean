/- Lemmas. No conditions. -/
import Derived.Test.YtnpfcnfhfkflhaaGreatDoorB40
import Derived.Test.YtnpfcnfhfkflhaaGreatDoorB36
import Derived.Test.YtnpfcnfhfkflhaaGreatDoorB05
import Derived.Test.YtnpfcnfhfkflhaaGreatDoorB32
set_option linter.all false
open List
open Go.Proofs.Tryz (prog)
set_option maxRecDepth 100000
namespace Go.TM
variable{T:Type}{P:Program}{S:Sys P T}{U U':Qa T}
abbrev JU(mb b f e:Nat)(r v:Value)(E:List (Int×Value))(L:List Nat)(M:List Qx):List Qx:=
 .obj mb (Qt QU E)::.obj b (.cells [r,v].toArray 25 (0,0))::.obj f (.cells (ZW L).toArray 3 (0,0))::.obj e (.cells [.slice none 0 0,.slice none 0 0].toArray 86 (0,0))::M
def Jr(K:List Nat):List (Int×Value):=JM K.length (λ p=>(K.getD p 0:Nat)) λ p=>.int .i64 (p:Nat)
def V2(K:List Nat):(Jr K).length=K.length:=DR _ _ _
def IB{K:List Nat}{p:Nat}(h:p<K.length):(Jr K)[p]?=some (((K.getD p 0:Nat):Int),.int .i64 (p:Nat)):=SI h
def gQ{K:List Nat}(b:K.Nodup){q r:Nat}(e:q<K.length)(f:r<K.length)(h:K.getD q 0=K.getD r 0):q=r:=by
 simp only[getD_eq_getElem?_getD,getElem?_eq_getElem e,getElem?_eq_getElem f,Option.getD_some]at h;exact(getElem_inj b).1 h
theorem OG{K:List Nat}{q:Nat}(b:q<K.length):K.getD q 0∈K:=by
 simp_all
def B8{K:List Nat}{k:Nat}(h:k∉K):ZF ((k:Nat):Int) (.int .i64 (K.length:Nat)) (Jr K)=Jr (K++[k]):=by
 have b:=(T5 (m:=K.length) (k:=((k:Nat):Int)) (ky:=λ p=>(K.getD p 0:Nat)) (vl:=λ p=>.int .i64 (p:Nat)) λ q w e=>h (by
  have e':K.getD q 0=k:=Int.ofNat.inj e;rw[<- e'];exact OG w)).2 (.int .i64 (K.length:Nat))
 unfold Jr;rw[b,length_append,length_cons,length_nil,EX];congr 1
 .refine wV λ p f=>⟨?_,rfl⟩;rw[getD_eq_getElem?_getD,getD_eq_getElem?_getD,getElem?_append_left f]
 simp_all
def kM{K:List Nat}(b:K.Nodup){p:Nat}(f:p<K.length):lk ((K.getD p 0:Nat):Int) (Jr K)=some (.int .i64 (p:Nat)):=
 Di (m:=K.length) (ky:=λ p=>((K.getD p 0:Nat):Int)) (vl:=λ p=>.int .i64 (p:Nat)) f λ q r h w e=>gQ b h w (Int.ofNat.inj e)
def qj{K:List Nat}{k:Nat}(h:k∉K):lk ((k:Nat):Int) (Jr K)=none:=
 (T5 (m:=K.length) (ky:=λ p=>((K.getD p 0:Nat):Int)) (vl:=λ p=>.int .i64 (p:Nat)) λ q b e=>h (by
  grind[Int.ofNat.inj,OG])).1
def Lo{f:Nat->Bool}{j:Nat}:∀{n:Nat},j<=n->∃Y,Bk.kpt f n=Bk.kpt f j++Y
 |0,h=>⟨[],by rw[Nat.le_zero.1 h];simp⟩
 |n+1,h=>by
  by_cases e:j=n+1
  .exact⟨[],by rw[e];simp⟩
  .obtain⟨Y,hY⟩:=Lo (f:=f) (j:=j) (n:=n) O1;cases b:f n with
   |true=>exact⟨Y,by rw[Bk.kpt_out b,hY]⟩
   |false=>exact⟨Y++[n],by rw[Bk.kpt_in b,hY,append_assoc]⟩
def kE{f:Nat->Bool}{j n:Nat}(h:j<n)(e:f j=false):(Bk.kpt f j).length<(Bk.kpt f n).length/\(Bk.kpt f n).getD (Bk.kpt f j).length 0=j:=by
 obtain⟨Y,b⟩:=Lo (f:=f) (show j+1<=n by omega);rw[Bk.kpt_in e]at b;rw[b];constructor
 .simp
 .simp[getD_eq_getElem?_getD]
end Go.TM
namespace Go.Proofs
open Go.TM
variable{T:Type}{S:TM.Sys prog T}{U:Qa T}
attribute [local irreducible] Qb Zl Wt
set_option maxHeartbeats 4000000 in
def LS(h:BH)(b:Bk)(hb:Zq U.frz h b)(a8:b.Ok)(o:Nat)(ho:o<2^60):Qb S 87 #[h.v,.int .i64 o] (λ v U'=>(∃h':BH,v=h'.v/\Zq U'.frz h' (b.wo o.testBit)/\h'.rl<=h'.rc)/\U.le U') U:=by
 have bo:=hb.cs.1;have f0:=hb.rs.1;have fx:=a8.nc;have fy:=a8.nr;obtain⟨i3,fe,ff,fg,f2⟩:=Dy;generalize dk:Gv o.testBit b.cs.length b.cs.length (b.A.map Z7)=W;have hW:=a8.wlW o.testBit;rw[dk]at hW
 have dl:WB b.cs.length 5 (b.A.map Z7):=⟨by simp[b.A_length],λ x H=>by
  obtain⟨l,hl,rfl⟩:=mem_map.1 H;refine Nat.lt_of_lt_of_le (jI (n:=5) λ k hk=>?_) (Nat.le_refl _);simp only[Bk.A,mem_map]at hl;obtain⟨c,hc,rfl⟩:=hl;obtain⟨n,hn,rfl⟩:=mem_map.1 hk;have:=a8.af c hc n hn;unfold Bk.nc at this;omega⟩
 have eh:Qb S 87 #[h.v,.int .i64 o] (λ v U'=>(∃(h':BH)(Z:List Qx),v=h'.v/\QW U' h' (b.wo o.testBit) (Z++U.M))/\(∀x q,U.I x=some q->U'.I x=some q)/\U'.tok=U.tok) U:=by
  refine Qb.of (args:=[_,_]) Ow Qf S1 ?_
  repeat refine⟨rfl,?_⟩
  conv=>whnf
  intro B U1 bn hB;have hB:Zi U1 B #[.slice h.ra h.rl h.rc,.slice h.ca h.cl h.cc]:=hB
  conv=>whnf
  intro V ft;refine⟨_,.refl _,?_⟩;have d1:=Z4 (U:=U1) V (.cells #[.slice none 0 0,.slice none 0 0] 86);refine⟨_,(hB.lg d1).sees3 (o:=1) rfl,?_⟩
  conv=>whnf
  refine EK (n:=h.cl) Pf fe ff rfl fg O1 rfl rfl O1 λ N f1=>?_;have cg:=d1.trans (Z4 (U:=U1.put V (.cells #[.slice none 0 0,.slice none 0 0] 86)) N (.cells (replicate h.cl (Value.int .i64 0)).toArray 3));refine⟨_,(hB.lg cg).sees3 (o:=1) rfl,Nat,λ i=>[(1,.int .i64 o),(2,.pointer (some ⟨B,0,none⟩)),(4,.pointer (some ⟨V,0,none⟩)),(5,.slice (some ⟨N,0,none⟩) h.cl h.cl),(26,.slice h.ca h.cl h.cc),(27,.int .i64 h.cl),(28,.int .i64 i)],
   λ i U'=>U1.frz.lg U'/\i<=h.cl/\U'.M=.obj N (.cells (ZW (XA (b.A.map Z7) h.cl i)).toArray 3 (0,0))::.obj V (.cells [.slice none 0 0,.slice none 0 0].toArray 86 (0,0))::U.M,λ i=>h.cl-i,0,T1,⟨Qp.trans cg,O1,?_⟩,?_⟩
  .rw[wK,<- qg];show _::_::U1.M=_;rw[bn.own]
  rintro i f U2⟨P,hi,hM⟩;have a5:Zu ((i:Int)+1):=I1
  repeat refine⟨rfl,?_⟩
  conv=>whnf
  apply Qe<;>intro hc
  .have hlt:i<h.cl:=by simpa using hc
   obtain⟨ad,c,ga,gl,gc,aa,al,ac,H,c1,ed,bg,-,-,ha,dm,ax⟩:=(hb.lg (bn.lg.frz2.trans P.frz2)).case hlt;have cy:=a8.toLow.lt ax;refine⟨ad,i,⟨c1,rfl,hlt⟩,_,⟨rfl,bg.lg Qp⟩,?_⟩
   conv=>whnf
   intro b7 et;refine⟨_,.refl _,rfl,Zt (vs:=[.string c.nm,.int .i64 c.ag,.slice ga gl gc,.slice aa al ac]) et rfl (by simp[Value.single]) λ U3 aq er=>?_⟩;refine⟨_,er.sees3 (o:=3) rfl,XT.any,(Ja aa al ac c.af ((ha.lg aq.lg.frz2).lg Qp) dm cy).go λ _=>?_⟩;have ep:(b.A.map Z7)[i]?=some (Z7 (c.af.map Int.toNat)):=by simp[Bk.A,H]
   have ev:=gW (X:=b.A.map Z7) (n:=h.cl) (i:=i) (by simp[b.A_length,bo]) hi;refine⟨⟨N,0,none⟩,i,⟨rfl,rfl,hlt⟩,rfl,?_⟩;rw[Nat.mul_one];refine WS (i:=i) (v:=.int .i64 (Z7 (c.af.map Int.toNat):Nat)) [] (aq.own.trans hM) (by simp[LN,ev];omega) rfl λ U4 dc fa ay=>?_;rw[Fo,ja ep (by simp[b.A_length,bo])]at ay;refine⟨a5,?_⟩
   conv=>whnf
   exact⟨rfl,i+1,T1,⟨⟨λ x q H=>by rw[dc];exact aq.imm x q (P.imm x q H),⟨_,(append_nil _).symm⟩,fa.trans (aq.tok.trans P.tok)⟩,O1,ay⟩,L1⟩
  have aj:i=h.cl:=by simp at hc;omega
  subst aj;rw[vA (by simp[b.A_length,bo])]at hM;refine⟨_,(hB.imI P.imm).sees3 (o:=1) rfl,Nat×List Nat,λ y=>[(1,.int .i64 o),(2,.pointer (some ⟨B,0,none⟩)),(4,.pointer (some ⟨V,0,none⟩)),(5,.slice (some ⟨N,0,none⟩) h.cl h.cl),(43,.int .i64 h.cl),(44,.int .i64 y.1)],
   λ y U'=>U1.frz.lg U'/\y.1<=h.cl/\U'.M=.obj N (.cells (ZW y.2).toArray 3 (0,0))::.obj V (.cells [.slice none 0 0,.slice none 0 0].toArray 86 (0,0))::U.M/\WB h.cl 5 y.2/\Gv o.testBit h.cl (h.cl-y.1) y.2=W,λ y=>h.cl-y.1,(0,b.A.map Z7),T1,⟨P,O1,hM,by rw[<- bo];exact dl,by rw[<- dk,bo];rfl⟩,?_⟩
  clear hM P a5 hi;rintro⟨r,L⟩f U2⟨P,hr,hM,bm,a6⟩;simp only at hr hM bm a6;have dy:Zu ((r:Int)+1):=I1
  repeat refine⟨rfl,?_⟩
  conv=>whnf
  apply Qe<;>intro hc
  .have hrt:r<h.cl:=by simpa using hc
   rw[show h.cl-r=(h.cl-(r+1))+1 by omega]at a6
   refine⟨Nat,λ i=>[(1,.int .i64 o),(2,.pointer (some ⟨B,0,none⟩)),(4,.pointer (some ⟨V,0,none⟩)),(5,.slice (some ⟨N,0,none⟩) h.cl h.cl),(43,.int .i64 h.cl),(44,.int .i64 r),(47,.int .i64 h.cl),(48,.int .i64 i)],
    λ i U'=>U1.frz.lg U'/\i<=h.cl/\U'.M=.obj N (.cells (ZW (XQ o.testBit h.cl L i)).toArray 3 (0,0))::.obj V (.cells [.slice none 0 0,.slice none 0 0].toArray 86 (0,0))::U.M,λ i=>h.cl-i,0,T1,⟨P,O1,hM⟩,?_⟩
   rintro i f U3⟨ab,hi,av⟩;have a5:Zu ((i:Int)+1):=I1
   have ef:=bm.rto (out:=o.testBit) i
   repeat refine⟨rfl,?_⟩
   conv=>whnf
   apply Qe<;>intro hc
   .have hit:i<h.cl:=by simpa using hc
    refine⟨_,(hB.imI ab.imm).sees3 (o:=1) rfl,Nat,λ k=>[(1,.int .i64 o),(2,.pointer (some ⟨B,0,none⟩)),(4,.pointer (some ⟨V,0,none⟩)),(5,.slice (some ⟨N,0,none⟩) h.cl h.cl),(8,.int .i64 i),(43,.int .i64 h.cl),(44,.int .i64 r),(47,.int .i64 h.cl),(48,.int .i64 i),(54,.int .i64 h.cl),(55,.int .i64 k)],
     λ k U'=>U1.frz.lg U'/\k<=h.cl/\U'.M=.obj N (.cells (ZW (Hh o.testBit i (XQ o.testBit h.cl L i) k)).toArray 3 (0,0))::.obj V (.cells [.slice none 0 0,.slice none 0 0].toArray 86 (0,0))::U.M,λ k=>h.cl-k,0,T1,⟨ab,O1,av⟩,?_⟩
    rintro k f U4⟨ao,hk,ay⟩;have ak:Zu ((k:Int)+1):=I1
    have b5:=ef.to (out:=o.testBit) (i:=i) k;have Q:=DW o.testBit i (XQ o.testBit h.cl L i) k;generalize de:Hh o.testBit i (XQ o.testBit h.cl L i) k=Lk at ay b5 Q;unfold WO at Q;have bq:∀j,Lk.getD j 0<2^60:=λ j=>Nat.lt_trans (b5.at j) D1
    have bg:∀j,j<h.cl->U4.sees ((Addr.mk N 0 none).add (j*1)) (.int .i64 (Lk.getD j 0:Nat)):=λ j hj=>by
     rw[Nat.mul_one];exact Za [] ay j _ (Ih (by rw[b5.len];exact hj))
    repeat refine⟨rfl,?_⟩
    conv=>whnf
    apply Qe<;>intro hc
    .have hkt:k<h.cl:=by simpa using hc
     have a4:=HX (bq i) (show k<60 by omega);have bt:=HX ho (show k<60 by omega);refine⟨⟨N,0,none⟩,i,⟨rfl,rfl,hit⟩,_,bg i hit,O1,?_⟩
     repeat refine⟨rfl,?_⟩
     conv=>whnf
     apply Zr<;>intro hc
     .have hb1:(Lk.getD i 0).testBit k=true:=a4.symm.trans hc;rw[hb1,Bool.true_and]at Q;refine⟨O1,?_⟩
      repeat refine⟨rfl,?_⟩
      conv=>whnf
      apply Qe<;>intro hc
      .have hb2:o.testBit k=true:=bt.symm.trans hc;rw[if_pos hb2]at Q;refine⟨⟨N,0,none⟩,i,⟨rfl,rfl,hit⟩,_,bg i hit,⟨N,0,none⟩,k,⟨rfl,rfl,hkt⟩,_,bg k hkt,?_⟩
       conv=>whnf
       intro U5 cv _;refine⟨rfl,⟨N,0,none⟩,i,⟨rfl,rfl,hit⟩,rfl,?_⟩;rw[Nat.mul_one];refine WS (i:=i) [] (cv.own.trans ay) (by simp[LN,b5.len];omega) rfl λ U6 dd ee dg=>?_
       have df:U6.M=.obj N (.cells (ZW (Hh o.testBit i (XQ o.testBit h.cl L i) (k+1))).toArray 3 (0,0))::.obj V (.cells [.slice none 0 0,.slice none 0 0].toArray 86 (0,0))::U.M:=by
        rw[Q,<- Fo,<- OQ (bq i) (bq k)];exact dg
       refine⟨ak,?_⟩
       conv=>whnf
       exact⟨rfl,k+1,T1,⟨⟨λ x q H=>by rw[dd];exact cv.imm x q (ao.imm x q H),⟨_,(append_nil _).symm⟩,ee.trans (cv.tok.trans ao.tok)⟩,O1,df⟩,L1⟩
      .have hb2:o.testBit k=false:=bt.symm.trans hc;rw[hb2,if_neg S1]at Q;refine⟨ak,?_⟩
       conv=>whnf
       exact⟨rfl,k+1,T1,⟨ao,O1,by rw[Q];exact ay⟩,L1⟩
     .have hb1:(Lk.getD i 0).testBit k=false:=a4.symm.trans hc;rw[hb1,Bool.false_and,if_neg S1]at Q;refine⟨ak,?_⟩
      conv=>whnf
      exact⟨rfl,k+1,T1,⟨ao,O1,by rw[Q];exact ay⟩,L1⟩
    .have aj:k=h.cl:=by simp at hc;omega
     subst aj;rw[IQ,<- F5]at de;subst de;refine⟨a5,?_⟩
     conv=>whnf
     exact⟨rfl,i+1,T1,⟨ao,O1,ay⟩,L1⟩
   .have aj:i=h.cl:=by simp at hc;omega
    subst aj;refine⟨dy,?_⟩
    conv=>whnf
    exact⟨rfl,(r+1,XQ o.testBit h.cl L h.cl),T1,⟨ab,by show r+1<=h.cl;omega,av,ef,a6⟩,L1⟩
  have aj:r=h.cl:=by simp at hc;omega
  subst aj;rw[Nat.sub_self]at a6;obtain rfl:L=W:=a6;have bq:∀j,L.getD j 0<2^60:=λ j=>Nat.lt_trans (bm.at j) D1;have dv:U.frz.lg U2.frz:=bn.lg.frz2.trans P.frz2;refine⟨_,(hB.imI P.imm).sees3 (o:=0) rfl,U0.any,(UH h.ra h.rl h.rc b.rs ((hb.rs.lg dv λ _ _ h=>h).lg Qp λ _ _ h=>h) O1).mono ?_⟩;rintro _ U3⟨⟨ra,rl,rc,rfl,c6,eb⟩,aq⟩-
  conv=>whnf
  intro z dt;refine⟨_,.refl _,rfl,HR (vs:=[.slice ra rl rc,.slice none 0 0]) rfl (by simp[Value.single]) ?_⟩
  conv=>whnf
  refine Pu QU λ mb e5=>?_;have ab:U1.frz.lg U3:=P.trans aq.lg;have fl:=eb.1
  let K:Nat->List Nat:=λ j=>Bk.kpt o.testBit j
  have av:((U3.put z (.cells [.slice ra rl rc,.slice none 0 0].toArray 25)).put mb (Qt QU [])).M=JU mb z N V (.slice ra rl rc) (.slice none 0 0) (Jr (K 0)) L U.M:=by
   show _::_::U3.M=_;rw[aq.own,hM];rfl
  have bj:U1.frz.lg ((U3.put z (.cells [.slice ra rl rc,.slice none 0 0].toArray 25)).put mb (Qt QU [])):=⟨ab.imm,⟨_,(append_nil _).symm⟩,ab.tok⟩;have bz:Q5 ((U3.put z (.cells [.slice ra rl rc,.slice none 0 0].toArray 25)).put mb (Qt QU [])).frz ra rl 1 b.rs λ s vs=>vs=[.string s]:=eb;generalize((U3.put z (.cells [.slice ra rl rc,.slice none 0 0].toArray 25)).put mb (Qt QU []))=U4 at av bj bz ⊢;refine⟨_,(hB.imI bj.imm).sees3 (o:=1) rfl,Nat×Value,λ y=>[(1,.int .i64 o),(2,.pointer (some ⟨B,0,none⟩)),(4,.pointer (some ⟨V,0,none⟩)),(5,.slice (some ⟨N,0,none⟩) h.cl h.cl),(10,.pointer (some ⟨z,0,none⟩)),(11,.map (some mb)),(94,.slice h.ca h.cl h.cc),(95,.int .i64 h.cl),(96,.int .i64 y.1)],
   λ y U'=>U4.frz.lg U'/\y.1<=h.cl/\∃(ps:List (Cs×JN))(A:List Qx),ps.map (·.1)=b.woL (K y.1) (λ _=>[])/\(∀p∈ps,X4 U' p/\p.2.F=[])/\Jw 49 4 y.2 (ps.flatMap ZB) A/\U'.M=A++JU mb z N V (.slice ra rl rc) y.2 (Jr (K y.1)) L U.M,λ y=>h.cl-y.1,(0,.slice none 0 0),T1,⟨⟨λ _ _ h=>h,⟨_,(append_nil _).symm⟩,rfl⟩,O1,[],[],rfl,S1,.nil,av⟩,?_⟩
  clear hM P av aq ab dt e5;rintro⟨i,v⟩f U5⟨P,hi,ps,A,bp,ap,aw,hM⟩;simp only at bp aw hM hi;obtain⟨sa,sl,sc,rfl,e8⟩:=aw.src;rw[Q0 Z0]at e8
  have fz:ps.length=(K i).length:=by
   have:=congrArg List.length bp
   rwa [length_map,Bk.woL_len]at this
  have fp:(K i).length<=i:=Bk.kpt_len i;have a5:Zu ((i:Int)+1):=I1
  have an:U1.frz.lg U5:=⟨λ x q H=>P.imm x q (bj.imm x q H),⟨_,(append_nil _).symm⟩,P.tok.trans bj.tok⟩
  repeat refine⟨rfl,?_⟩
  conv=>whnf
  apply Qe<;>intro hc
  .have hlt:i<h.cl:=by simpa using hc
   have bt:=HX ho (show i<60 by omega);obtain⟨ad,c,ga,gl,gc,aa,al,ac,H,c1,ed,bg,dx,fu,ha,dm,ax⟩:=(hb.lg (bn.lg.frz2.trans an.frz2)).case hlt;have dp:=Bk.cas_at H;have ew:=a8.gs c ax;have fi:=a8.gl c ax;have dq:=hb.cn c ax;have fh:=(a8.asc ax).1;have fj:=dx.1;have cf:=ha.1;refine⟨ad,i,⟨c1,rfl,hlt⟩,_,⟨rfl,bg.lg Qp⟩,?_⟩
   conv=>whnf
   intro ai du;refine⟨_,.refl _,?_⟩;cases a1:o.testBit i with
   |true=>
    have br:K (i+1)=K i:=Bk.kpt_out a1;refine⟨rfl,Zt (vs:=[.string c.nm,.int .i64 c.ag,.slice ga gl gc,.slice aa al ac]) du rfl (by simp[Value.single]) λ U6 cw _=>?_⟩;refine⟨O1,?_⟩
    repeat refine⟨rfl,?_⟩
    conv=>whnf
    apply Qe<;>intro hc
    .refine⟨a5,?_⟩
     conv=>whnf
     exact⟨rfl,(i+1,.slice sa sl sc),T1,⟨P.trans cw.lg,by show i+1<=h.cl;omega,ps,A,by show _=b.woL (K (i+1)) _;rw[br];exact bp,λ p hp=>⟨(ap p hp).1.lg cw.lg.frz2,(ap p hp).2⟩,aw,by show _=A++JU mb z N V _ _ (Jr (K (i+1))) L U.M;rw[br];exact cw.own.trans hM⟩,L1⟩
    .have:=bt.symm.trans hc;rw[a1]at this;cases this
   |false=>
    have br:K (i+1)=K i++[i]:=Bk.kpt_in a1;have d4:i∉K i:=λ hm=>absurd (Bk.kpt_lt hm).1 (Nat.lt_irrefl _);refine⟨rfl,HR (vs:=[.string c.nm,.int .i64 c.ag,.slice ga gl gc,.slice aa al ac]) rfl (by simp[Value.single]) ?_⟩
    have cr:(U5.put ai (.cells [.string c.nm,.int .i64 c.ag,.slice ga gl gc,.slice aa al ac].toArray 49)).M=(.obj ai (.cells [.string c.nm,.int .i64 c.ag,.slice ga gl gc,.slice aa al ac].toArray 49 (0,0))::A)++JU mb z N V (.slice ra rl rc) (.slice sa sl sc) (Jr (K i)) L U.M:=by
     show _::U5.M=_;rw[hM];rfl
    have c9:U5.frz.lg (U5.put ai (.cells [.string c.nm,.int .i64 c.ag,.slice ga gl gc,.slice aa al ac].toArray 49)):=⟨λ _ _ h=>h,⟨_,(append_nil _).symm⟩,rfl⟩;generalize(U5.put ai (.cells [.string c.nm,.int .i64 c.ag,.slice ga gl gc,.slice aa al ac].toArray 49))=U6 at cr c9 ⊢;refine⟨O1,?_⟩
    repeat refine⟨rfl,?_⟩
    conv=>whnf
    apply Qe<;>intro hc
    .have:=bt.symm.trans hc;rw[a1]at this;cases this
    refine⟨_,(J0 (b:=z) (e:=25) (vs:=[.slice ra rl rc,.slice sa sl sc]) (by rw[cr];simp)).cell (i:=1) rfl,?_⟩
    conv=>whnf
    obtain⟨Mu,di⟩:=AV (M:=U6.M) (b:=mb) (o:=Qt QU (Jr (K i))) (L₁:=.obj ai (.cells [.string c.nm,.int .i64 c.ag,.slice ga gl gc,.slice aa al ac].toArray 49 (0,0))::A) (L₂:=.obj z (.cells [.slice ra rl rc,.slice sa sl sc].toArray 25 (0,0))::.obj N (.cells (ZW L).toArray 3 (0,0))::.obj V (.cells [.slice none 0 0,.slice none 0 0].toArray 86 (0,0))::U.M) (by rw[cr]);have ec:(.int .i64 (sl:Int):Value)=.int .i64 ((K i).length:Nat):=by rw[show sl=(K i).length by omega]
    refine Uv (b:=mb) (k:=((i:Nat):Int)) (l:=Jr (K i)) (v:=.int .i64 sl) (M':=Mu (Qt QU (Jr (K (i+1))))) Pr VX rfl rfl rfl (by rw[ec,B8 d4,<- br];exact(di _).1) ?_;have c5:({ U6 with M:=Mu (Qt QU (Jr (K (i+1)))) }:Qa T).M.Perm _:=(di (Qt QU (Jr (K (i+1))))).2;have b1:U5.frz.lg ({ U6 with M:=Mu (Qt QU (Jr (K (i+1)))) }:Qa T):=⟨c9.imm,⟨_,(append_nil _).symm⟩,c9.tok⟩;generalize({ U6 with M:=Mu (Qt QU (Jr (K (i+1)))) }:Qa T)=Ux at c5 b1 ⊢;refine⟨_,⟨rfl,J0 (b:=ai) (e:=49) (vs:=[.string c.nm,.int .i64 c.ag,.slice ga gl gc,.slice aa al ac]) (c5.mem_iff.2 S1)⟩,?_⟩;refine⟨Oh.any,(DV (U:=Ux) c ga aa gl gc al ac (dx.lg b1.frz2) O1 (ha.lg b1.frz2) O1 (λ g hg=>by have:=(ew g hg).1;omega) dq).mono ?_⟩;rintro _ U7⟨⟨⟨a9,bc,ba,kv,kF⟩,rfl,hk,bi⟩,bh,bl⟩-;obtain⟨a0,l0,c0,e0,-⟩:=hk.af.src;obtain rfl:kv=.slice a0 l0 c0:=e0
    have d6:U7.M.Perm (kF++(.obj ai (.cells [.string c.nm,.int .i64 c.ag,.slice ga gl gc,.slice aa al ac].toArray 49 (0,0))::(A++JU mb z N V (.slice ra rl rc) (.slice sa sl sc) (Jr (K (i+1))) L U.M))):=by
     rw[bi];exact Perm.append_left _ c5
    have ek:∀x q,U5.I x=some q->U7.I x=some q:=λ x q H=>bh x q (b1.imm x q H);have fb:U7.tok=U5.tok:=bl.trans b1.tok;refine⟨rfl,Y8 (vs:=[.string c.nm,.int .i64 c.ag,.slice a9 bc ba,.slice a0 l0 c0]) d6 rfl (by simp[Value.single]) λ U8 b8 ck dh=>?_⟩;refine⟨rfl,gb (b:=ai) (e:=49) (c:=[.string c.nm,.int .i64 c.ag,.slice a9 bc ba,.slice a0 l0 c0].toArray) (L₁:=kF) (L₂:=A++JU mb z N V (.slice ra rl rc) (.slice sa sl sc) (Jr (K (i+1))) L U.M) (i:=3) (v:=.slice none 0 0) (by rw[dh]) (by show 3<4;omega) rfl λ U9 b9 cm a3=>?_⟩;have a3:U9.M=kF++.obj ai (.cells [.string c.nm,.int .i64 c.ag,.slice a9 bc ba,.slice none 0 0].toArray 49 (0,0))::(A++JU mb z N V (.slice ra rl rc) (.slice sa sl sc) (Jr (K (i+1))) L U.M):=a3;have da:U5.frz.lg U9.frz:=⟨λ x q H=>by show U9.I x=_;rw[b9,b8];exact ek x q H,⟨[],rfl⟩,by show U9.tok=_;rw[cm,ck];exact fb⟩;have eg:U7.frz.lg U9.frz:=⟨λ x q H=>by show U9.I x=_;rw[b9,b8];exact H,⟨[],rfl⟩,by show U9.tok=_;rw[cm,ck];rfl⟩;refine⟨_,(J0 (b:=z) (e:=25) (vs:=[.slice ra rl rc,.slice sa sl sc]) (by rw[a3];simp)).cell (i:=1) rfl,?_⟩;refine⟨_,⟨rfl,J0 (b:=ai) (e:=49) (vs:=[.string c.nm,.int .i64 c.ag,.slice a9 bc ba,.slice none 0 0]) (by rw[a3];simp)⟩,?_⟩
    conv=>whnf
    intro bb eu
    refine xM (M':=A++JU mb z N V (.slice ra rl rc) (.slice sa sl sc) (Jr (K (i+1))) L U.M) (M₀:=kF++[.obj ai (.cells [.string c.nm,.int .i64 c.ag,.slice a9 bc ba,.slice none 0 0].toArray 49 (0,0))]) eu (by
     rw[a3];refine Perm.trans ?_ perm_append_comm;rw[append_assoc];exact Perm.refl _) λ Ua cp c8 ct cz=>?_
    have b0:U9.frz.lg Ua.frz:=⟨cp,⟨[],rfl⟩,c8⟩;have cz:Zi Ua bb (ZB (({ c with af:=[] }:Cs),(⟨a9,bc,ba,.slice none 0 0,[]⟩:JN))).toArray:=cz
    conv=>whnf
    refine Ws (v:=.slice sa sl sc) (cs:=ps.flatMap ZB) (new:=ZB (({ c with af:=[] }:Cs),(⟨a9,bc,ba,.slice none 0 0,[]⟩:JN))) (M₀:=JU mb z N V (.slice ra rl rc) (.slice sa sl sc) (Jr (K (i+1))) L U.M) Mf rfl rfl (by rw[ct];exact aw _) (.inr ⟨_,rfl,cz.rd⟩) rfl (by simp[ZB,Value.single]) (by rw[Q0 Z0,Z0];omega) λ v' M' cx _=>?_;obtain⟨co,cq,ce⟩:=cx.split;obtain⟨ta,tl,tc,rfl,-⟩:=ce.src;refine⟨rfl,WS (b:=z) (e:=25) (c:=[.slice ra rl rc,.slice sa sl sc].toArray) (M₀:=.obj N (.cells (ZW L).toArray 3 (0,0))::.obj V (.cells [.slice none 0 0,.slice none 0 0].toArray 86 (0,0))::U.M) (i:=1) (v:=.slice ta tl tc) (co++[.obj mb (Qt QU (Jr (K (i+1))))]) (by show M'=_;rw[cq];simp) (by show 1<2;omega) rfl λ Uc el fc cu=>?_⟩;have cu:Uc.M=co++JU mb z N V (.slice ra rl rc) (.slice ta tl tc) (Jr (K (i+1))) L U.M:=by rw[cu];simp
    have b6:U9.frz.lg Uc.frz:=b0.trans ⟨λ x q H=>by show Uc.I x=_;rw[el];exact H,⟨[],rfl⟩,fc⟩;refine⟨a5,rfl,(i+1,.slice ta tl tc),T1,⟨⟨λ x q H=>b6.imm x q (da.imm x q (P.imm x q H)),⟨_,(append_nil _).symm⟩,b6.tok.trans (da.tok.trans P.tok)⟩,by show i+1<=h.cl;omega,ps++[(({ c with af:=[] }:Cs),(⟨a9,bc,ba,.slice none 0 0,[]⟩:JN))],co,?_,?_,?_,cu⟩,L1⟩
    .show _=b.woL (K (i+1)) _;rw[br,Bk.woL_snoc,map_append,bp,dp];rfl
    .intro p hp;rcases mem_append.1 hp with hp|hp
     .exact⟨(ap p hp).1.lg (da.trans b6),(ap p hp).2⟩
     .rw[mem_singleton.1 hp];have:=hk.lg (eg.trans b6);exact⟨⟨this.gs,this.gl,.nil,this.nm,by show 0<=_;omega⟩,rfl⟩
    .rw[flatMap_append];simpa using ce
  have aj:i=h.cl:=by simp at hc;omega
  subst aj
  have E:QW U5 ⟨ra,rl,rc,sa,sl,sc⟩ (Bk.mk b.rs (b.woL (K h.cl) λ _=>[])) (JU mb z N V (.slice ra rl rc) (.slice sa sl sc) (Jr (K h.cl)) L U.M):=by
   refine⟨⟨ps,A,bp,λ p hp=>(ap p hp).1,aw,?_⟩,bz.lg P.frz2 λ _ _ h=>h,by show rl<_;omega,hb.rn,c6⟩
   have:ps.flatMap (·.2.F)=[]:=by
    rw[flatMap_eq_nil_iff];exact λ p hp=>(ap p hp).2
   rw[this,hM];exact Perm.refl _
  clear hM aw bp ap a5 bz
  conv=>whnf
  refine OC (b:=mb) (enc:=QU) (l:=Jr (K h.cl)) VX rfl (.inr (E.mem _ S1)) λ it fk=>?_;have em:(K h.cl).Nodup:=Bk.kpt_nodup _;have fw:(K h.cl).length<=5:=Nat.le_trans (Bk.kpt_len _) O1
  let G:Nat->List Int:=λ p=>Bk.afK o.testBit (L.getD ((K h.cl).getD p 0) 0) h.cl
  have E:QW (U5.put it (Jz mb (Jr (K h.cl)).length #[])) ⟨ra,rl,rc,sa,sl,sc⟩ (Bk.mk b.rs (b.woL (K h.cl) λ p=>if p∈(#[]:Array Nat)then G p else[])) (.obj it (Jz mb (Jr (K h.cl)).length #[])::JU mb z N V (.slice ra rl rc) (.slice sa sl sc) (Jr (K h.cl)) L U.M):=by
   rw[show(λ p=>if p∈(#[]:Array Nat)then G p else[])=(λ _=>([]:List Int)) by funext p;simp];obtain⟨ps,A,h1,h2,h3,h4⟩:=E.ex;refine⟨⟨ps,A,h1,λ p hp=>(h2 p hp).lg ⟨λ _ _ h=>h,⟨[],rfl⟩,rfl⟩,h3,?_⟩,E.rs.lg ⟨λ _ _ h=>h,⟨[],rfl⟩,rfl⟩ λ _ _ h=>h,E.rl,E.rn,E.rc⟩;show(_::U5.M).Perm _;rw[<- append_assoc];refine(h4.cons _).trans ?_;rw[<- append_assoc];exact perm_middle.symm
  refine⟨Array Nat,λ _=>[(2,.pointer (some ⟨B,0,none⟩)),(4,.pointer (some ⟨V,0,none⟩)),(5,.slice (some ⟨N,0,none⟩) h.cl h.cl),(10,.pointer (some ⟨z,0,none⟩)),(11,.map (some mb)),(122,.pointer (some ⟨it,0,none⟩))],
   λ seen U'=>U5.frz.lg U'/\QW U' ⟨ra,rl,rc,sa,sl,sc⟩ (Bk.mk b.rs (b.woL (K h.cl) λ p=>if p∈seen then G p else[])) (.obj it (Jz mb (Jr (K h.cl)).length seen)::JU mb z N V (.slice ra rl rc) (.slice sa sl sc) (Jr (K h.cl)) L U.M)/\seen.toList.Nodup/\∀i∈seen.toList,i<(K h.cl).length,λ seen=>(K h.cl).length-seen.size,#[],T1,⟨⟨λ _ _ h=>h,⟨_,(append_nil _).symm⟩,rfl⟩,E,S1,S1⟩,?_⟩
  clear E;rintro seen f U6⟨bk,E,d2,ch⟩
  have e9:seen.size<=(K h.cl).length:=by
   have:=H7 d2 ch;simpa using this
  have bv:U1.frz.lg U6:=⟨λ x q H=>bk.imm x q (an.imm x q H),⟨_,(append_nil _).symm⟩,bk.tok.trans an.tok⟩;obtain⟨Xp,Yp,eo,c7,-,-⟩:=E.pick
  conv=>whnf
  refine YX (b:=mb) (r:=it) (seen:=seen) (enc:=QU) (l:=Jr (K h.cl)) (λ q=>Xp++.obj it q::Yp) rfl (.inr (E.mem _ S1)) (λ q=>by rw[eo];exact PN .here _) (λ cf=>?_) (λ q p hp d3=>?_)
  .have hfin:(Bk.mk b.rs (b.woL (K h.cl) λ p=>if p∈seen then G p else[]))=b.wo o.testBit:=by
    rw[Bk.wo_woL hW,bo];congr 1;refine Bk.woL_congr λ p hp=>?_;rw[if_pos (cf p (by rw[V2];exact hp))]
   rw[hfin]at E
   repeat refine⟨rfl,?_⟩
   refine⟨_,⟨rfl,J0 (b:=z) (e:=25) (vs:=[.slice ra rl rc,.slice sa sl sc]) (E.mem _ S1)⟩,?_⟩
   conv=>whnf
   obtain⟨ps,A,h1,h2,h3,h4⟩:=E.ex;refine⟨rfl,Y8 (b:=V) (e:=86) (c:=[.slice none 0 0,.slice none 0 0].toArray) (vs:=[.slice ra rl rc,.slice sa sl sc]) (L₁:=A++(ps.flatMap (·.2.F)++[.obj it (Jz mb (Jr (K h.cl)).length seen),.obj mb (Qt QU (Jr (K h.cl))),.obj z (.cells [.slice ra rl rc,.slice sa sl sc].toArray 25 (0,0)),.obj N (.cells (ZW L).toArray 3 (0,0))])) (L₂:=U.M) (by simpa using h4) rfl (by simp[Value.single]) λ U7 bh bl bi=>?_⟩;refine⟨_,⟨rfl,J0 (b:=V) (e:=86) (vs:=[.slice ra rl rc,.slice sa sl sc]) (by rw[bi];simp)⟩,?_⟩;have hz:U6.frz.lg U7.frz:=⟨λ x q H=>by show U7.I x=_;rw[bh];exact H,⟨[],rfl⟩,bl⟩;refine⟨⟨⟨ra,rl,rc,sa,sl,sc⟩,[.obj it (Jz mb (Jr (K h.cl)).length seen),.obj mb (Qt QU (Jr (K h.cl))),.obj z (.cells [.slice ra rl rc,.slice sa sl sc].toArray 25 (0,0)),.obj N (.cells (ZW L).toArray 3 (0,0)),.obj V (.cells [.slice ra rl rc,.slice sa sl sc].toArray 86 (0,0))],rfl,⟨⟨ps,A,h1,λ p hp=>(h2 p hp).lg hz,h3,by rw[bi];simp⟩,E.rs.lg hz λ _ _ h=>h,E.rl,E.rn,E.rc⟩⟩,λ x q H=>by rw[bh];exact bv.imm x q (bn.imm x q H),bl.trans (bv.tok.trans bn.tok)⟩
  .have hql:q<(K h.cl).length:=by have:=(List.getElem?_eq_some_iff.1 hp).1;rwa [V2]at this
   rw[IB hql]at hp;cases hp;have c3:=Bk.kpt_lt (OG hql:(K h.cl).getD q 0∈Bk.kpt o.testBit h.cl);generalize dz:(K h.cl).getD q 0=kk at c3
   have cj:(seen.push q).toList.Nodup:=by
    rw[Array.toList_push,nodup_append];refine⟨d2,S1,λ x H y hy=>?_⟩;rw[mem_singleton.1 hy];rintro rfl;exact d3 (by simpa using H)
   have bw:∀j∈(seen.push q).toList,j<(K h.cl).length:=by
    intro j hj;rw[Array.toList_push,mem_append]at hj;rcases hj with hj|hj
    .exact ch j hj
    .rw[mem_singleton.1 hj];exact hql
   have dr:(K h.cl).length-(seen.push q).size<(K h.cl).length-seen.size:=by
    have:=H7 cj bw;rw[Array.length_toList,Array.size_push]at this;rw[Array.size_push];omega
   have a2:=c7 ({ U6 with M:=Xp++.obj it (Jz mb (Jr (K h.cl)).length (seen.push q))::Yp }:Qa T) (.obj it (Jz mb (Jr (K h.cl)).length (seen.push q))) (λ _ _ h=>h) rfl rfl;have a7:U5.frz.lg ({ U6 with M:=Xp++.obj it (Jz mb (Jr (K h.cl)).length (seen.push q))::Yp }:Qa T):=⟨bk.imm,⟨_,(append_nil _).symm⟩,bk.tok⟩;generalize({ U6 with M:=Xp++.obj it (Jz mb (Jr (K h.cl)).length (seen.push q))::Yp }:Qa T)=U7 at a2 a7 ⊢;have be:U1.frz.lg U7:=⟨λ x q H=>a7.imm x q (an.imm x q H),⟨_,(append_nil _).symm⟩,a7.tok.trans an.tok⟩
   repeat refine⟨rfl,?_⟩
   conv=>whnf
   refine Su (b:=mb) (r:=it) (seen:=seen) (enc:=QU) (l:=Jr (K h.cl)) rfl (.inr (a2.mem _ S1)) (.inr (a2.mem _ S1)) (IB hql) ?_;rw[dz];refine⟨_,(hB.imI be.imm).sees3 (o:=1) rfl,Nat,λ k=>[(2,.pointer (some ⟨B,0,none⟩)),(4,.pointer (some ⟨V,0,none⟩)),(5,.slice (some ⟨N,0,none⟩) h.cl h.cl),(10,.pointer (some ⟨z,0,none⟩)),(11,.map (some mb)),(14,.int .i64 kk),(15,.int .i64 q),(122,.pointer (some ⟨it,0,none⟩)),(131,.int .i64 h.cl),(132,.int .i64 k)],
    λ k U'=>U7.frz.lg U'/\k<=h.cl/\QW U' ⟨ra,rl,rc,sa,sl,sc⟩ (Bk.mk b.rs (b.woL (K h.cl) λ p=>if p=q then Bk.afK o.testBit (L.getD kk 0) k else if p∈seen then G p else[])) (.obj it (Jz mb (Jr (K h.cl)).length (seen.push q))::JU mb z N V (.slice ra rl rc) (.slice sa sl sc) (Jr (K h.cl)) L U.M),λ k=>h.cl-k,0,T1,⟨⟨λ _ _ h=>h,⟨_,(append_nil _).symm⟩,rfl⟩,O1,?_⟩,?_⟩
   .rw[Bk.woL_congr (b:=b) (g':=λ p=>if p∈seen then G p else[]) λ p hp=>?_]
    .exact a2
    .by_cases e:p=q
     .subst e;rw[if_pos rfl,if_neg d3];rfl
     .rw[if_neg e]
   rintro k f U8⟨ah,hk,Y⟩;have ak:Zu ((k:Int)+1):=I1
   have e4:U1.frz.lg U8:=⟨λ x q H=>ah.imm x q (be.imm x q H),⟨_,(append_nil _).symm⟩,ah.tok.trans be.tok⟩
   repeat refine⟨rfl,?_⟩
   conv=>whnf
   apply Qe<;>intro hc
   .have hkt:k<h.cl:=by simpa using hc
    cases a1:o.testBit k with
    |true=>
     have c4:lk ((k:Nat):Int) (Jr (K h.cl))=none:=qj λ hm=>by
      have:=(Bk.kpt_lt hm).2;rw[a1]at this;cases this
     conv=>whnf
     refine TT (b:=mb) (k:=((k:Nat):Int)) (l:=Jr (K h.cl)) Pr VX HW rfl rfl (.inr (Y.mem _ S1)) ?_;rw[c4];refine⟨ak,?_⟩
     conv=>whnf
     exact⟨rfl,k+1,T1,⟨ah,O1,by rw[Bk.afK_out a1];exact Y⟩,L1⟩
    |false=>
     obtain⟨d7,e6⟩:=kE (f:=o.testBit) hkt a1
     have c4:lk ((k:Nat):Int) (Jr (K h.cl))=some (.int .i64 ((K k).length:Nat)):=by
      have:=kM em d7
      rwa [show(K h.cl).getD (Bk.kpt o.testBit k).length 0=k from e6]at this
     have a4:=HX (bq kk) (show k<60 by omega)
     have ea:U8.sees ((Addr.mk N 0 none).add (kk*1)) (.int .i64 (L.getD kk 0:Nat)):=by
      rw[Nat.mul_one];exact J0 (b:=N) (e:=3) (vs:=ZW L) (Y.mem _ S1) kk _ (Ih (by rw[bm.len];exact c3.1))
     have az:=Bk.afK_in (out:=o.testBit) (w:=L.getD kk 0) (j:=k) a1
     conv=>whnf
     refine TT (b:=mb) (k:=((k:Nat):Int)) (l:=Jr (K h.cl)) Pr VX HW rfl rfl (.inr (Y.mem _ S1)) ?_;rw[c4];refine⟨⟨N,0,none⟩,kk,⟨rfl,rfl,c3.1⟩,_,ea,O1,?_⟩
     repeat refine⟨rfl,?_⟩
     conv=>whnf
     apply Qe<;>intro hc
     .have hb1:(L.getD kk 0).testBit k=true:=a4.symm.trans hc;rw[hb1,if_pos rfl]at az
      have d8:q<(Bk.mk b.rs (b.woL (K h.cl) λ p=>if p=q then Bk.afK o.testBit (L.getD kk 0) k else if p∈seen then G p else[])).cs.length:=by
       show q<(b.woL _ _).length;rw[Bk.woL_len];exact hql
      have es:(Bk.mk b.rs (b.woL (K h.cl) λ p=>if p=q then Bk.afK o.testBit (L.getD kk 0) k else if p∈seen then G p else[])).cas q={ b.cas ((K h.cl).getD q 0)with af:=Bk.afK o.testBit (L.getD kk 0) k }:=by
       rw[Bk.cas_at (Bk.woL_at hql),if_pos rfl]
      obtain⟨a0,l0,c0,kF,cb,cc,rest,au⟩:=Y.openC d8;have bs:=au.acc;rw[es]at bs;have fv:=au.acc.src;have ez:=Bk.afK_len (out:=o.testBit) (L.getD kk 0) k
      let bd:=rest++(.obj it (Jz mb (Jr (K h.cl)).length (seen.push q))::JU mb z N V (.slice ra rl rc) (.slice sa sl sc) (Jr (K h.cl)) L U.M)
      let Us:Qa T:={ U8 with M:=kF++(.obj cb (.cells cc.toList.toArray 49 (0,0))::bd) }
      let Ub:Qa T:={ U8 with M:=.obj cb (.cells cc.toList.toArray 49 (0,0))::bd }
      have dj:Ub.lg Us:=⟨λ _ _ h=>h,⟨kF,rfl⟩,rfl⟩;have fq:(some ⟨cb,0,none⟩:Option Addr)=sa:=au.ca.symm;have d9:q<sl:=au.lt;have bx:Jn Ub ⟨z,0,none⟩ [.slice ra rl rc,.slice sa sl sc]:=J0 (e:=25) (by show _∈_::bd;simp[bd])
      have e7:Ub.sees (((Addr.mk cb 0 none).add (q*4)).add 3) (.slice a0 l0 c0):=by
       have:=J0 (U:=Ub) (b:=cb) (e:=49) (vs:=cc.toList) (by show _∈_::bd;simp) (q*4+3) _ au.at3;rw[Qo]at this;rw[Qo,Qo,Nat.add_assoc];exact this
      conv=>whnf
      intro fo bu;refine j_ (W7 au.pm) ?_
      refine LE (mu:=[1039]) (ops:=Pl Tryz.f87 39) (id:=39) (U:=Us) bu Ub dj [10,11] [[0,1,2,3,4,5,6,7,8,9,10,11]] [12,13,14] I9 wX Qf K1 K1 K1 K1 K1
       (λ f' db U'=>db=[]/\∃(va:Option Addr)(vl vc:Nat)(F':List Qx),XF f' [(2,.pointer (some ⟨B,0,none⟩)),(4,.pointer (some ⟨V,0,none⟩)),(5,.slice (some ⟨N,0,none⟩) h.cl h.cl),(10,.pointer (some ⟨z,0,none⟩)),(11,.map (some mb)),(14,.int .i64 kk),(15,.int .i64 q),(122,.pointer (some ⟨it,0,none⟩)),(131,.int .i64 h.cl),(132,.int .i64 k),(153,.slice sa sl sc),(154,.int .i64 q),(163,.slice va vl vc)]/\Jw 3 1 (.slice va vl vc) ((Bk.afK o.testBit (L.getD kk 0) (k+1)).map λ n=>.int .i64 n) F'/\U8.frz.lg U'/\U'.M=F'++(.obj cb (.cells cc.toList.toArray 49 (0,0))::bd)) ?_ ?_
      .intro l hl;simp only[I9,mem_cons,not_mem_nil,or_false]at hl;subst hl;refine⟨_,bx.cell (i:=1) rfl,_,bx.cell (i:=1) rfl,⟨cb,0,none⟩,q,⟨au.ca,rfl,d9⟩,_,e7,λ v U'=>∃ae,v=.slice (some ⟨ae,0,none⟩) 1 1/\Zi U' ae #[.int .i64 ((K k).length:Nat)]/\Us.le U',λ v U1 U2⟨ae,e1,hb,hl⟩am=>⟨ae,e1,hb.le am,hl.trans am⟩,λ v U'⟨ae,e1,hb,hl⟩=>dj.trans hl.lg,λ U' hC=>?_,λ v hv=>?_⟩
       .have am:=hC
        conv=>whnf
        intro ae c2;exact Zk c2 λ U3 aq hb=>⟨U3,.refl _,ae,rfl,hb,Qa.le.trans am aq⟩
       obtain⟨_,ae,rfl,-⟩:=hv;refine⟨λ v U'=>∃(F':List Qx),(∃va vl vc,v=.slice va vl vc)/\Jw 3 1 v ((Bk.afK o.testBit (L.getD kk 0) (k+1)).map λ n=>.int .i64 n) F'/\U8.frz.lg U'/\U'.M=F'++(.obj cb (.cells cc.toList.toArray 49 (0,0))::bd),λ v U1 U2⟨F',hs,h1,h2,h3⟩am=>⟨F',hs,h1,h2.trans am.lg,am.own.trans h3⟩,λ v U'⟨F',hs,h1,h2,h3⟩=>⟨h2.imm,⟨F',h3⟩,h2.tok⟩,λ U' hC=>?_,λ v hv=>?_⟩
       .obtain⟨b162',e1,hb162,am⟩:=hC;cases e1
        conv=>whnf
        refine Ws (v:=.slice a0 l0 c0) (cs:=(Bk.afK o.testBit (L.getD kk 0) k).map λ n=>.int .i64 n) (new:=[.int .i64 ((K k).length:Nat)]) (M₀:=.obj cb (.cells cc.toList.toArray 49 (0,0))::bd) Hf rfl rfl (by rw[am.own];exact bs _) (.inr ⟨_,rfl,hb162.rd⟩) rfl (by simp[Value.single]) (by rw[length_map,length_cons,length_nil];omega) λ v' M' cx _=>?_;obtain⟨F',cq,b2⟩:=cx.split;refine⟨_,.refl _,F',?_,by rw[az];simpa using b2,⟨λ x q H=>am.imm x q H,⟨_,(append_nil _).symm⟩,am.tok⟩,cq⟩;obtain⟨ta,tl,tc,e2,-⟩:=b2.src;exact⟨ta,tl,tc,e2⟩
       obtain⟨_,F',⟨va,vl,vc,rfl⟩,-⟩:=hv
       conv=>whnf
       rintro U'⟨ei,-,h1,h2,h3⟩;exact⟨rfl,va,vl,vc,ei,T1,h1,h2,h3⟩
      rintro f' db U9⟨rfl,va,vl,vc,F',dw,b2,ey,en⟩;rw[<- dw.ovr];clear dw;refine⟨⟨cb,0,none⟩,q,⟨au.ca,rfl,d9⟩,rfl,?_⟩;rw[show((Addr.mk cb 0 none).add (q*4)).add 3=(Addr.mk cb 0 none).add (q*4+3) by rw[Qo,Qo,Qo,Nat.add_assoc]];refine WS (i:=q*4+3) (v:=.slice va vl vc) F' en (by simpa using au.sz) rfl λ Ua cp c8 ct=>?_;have b0:U8.frz.lg Ua.frz:=ey.frz2.trans ⟨λ x q H=>by show Ua.I x=_;rw[cp];exact H,⟨[],rfl⟩,c8⟩;have e3:=Bk.afK_len (out:=o.testBit) (L.getD kk 0) (k+1);have bf:=au.back Ua (.slice va vl vc) F' (Bk.afK o.testBit (L.getD kk 0) (k+1)) (.obj it (Jz mb (Jr (K h.cl)).length (seen.push q))::JU mb z N V (.slice ra rl rc) (.slice sa sl sc) (Jr (K h.cl)) L U.M) b0 b2 O1 (by rw[ct]);rw[Bk.woL_set hql]at bf;rw[Bk.woL_congr (b:=b) (g':=λ p=>if p=q then Bk.afK o.testBit (L.getD kk 0) (k+1)else if p∈seen then G p else[]) λ p _=>by by_cases e:p=q <;> simp[e]]at bf
      conv=>whnf
      intro a' b3;refine⟨by rw[b3.size,bu.size],_,b3.get,?_⟩;rw[b3.ds];clear b3 bu;refine⟨ak,?_⟩
      conv=>whnf
      exact⟨rfl,k+1,T1,⟨⟨λ x q H=>b0.imm x q (ah.imm x q H),⟨_,(append_nil _).symm⟩,b0.tok.trans ah.tok⟩,O1,bf⟩,L1⟩
     .have hb1:(L.getD kk 0).testBit k=false:=a4.symm.trans hc;rw[hb1,if_neg S1,append_nil]at az;refine⟨ak,?_⟩
      conv=>whnf
      exact⟨rfl,k+1,T1,⟨ah,O1,by rw[az];exact Y⟩,L1⟩
   .have aj:k=h.cl:=by simp at hc;omega
    subst aj;rw[Bk.woL_congr (b:=b) (g':=λ p=>if p∈seen.push q then G p else[]) λ p hp=>?_]at Y
    .conv=>whnf
     exact⟨rfl,seen.push q,T1,⟨⟨λ x q H=>ah.imm x q (a7.imm x q H),⟨_,(append_nil _).symm⟩,ah.tok.trans a7.tok⟩,Y,cj,bw⟩,dr⟩
    .by_cases e:p=q
     .subst e;rw[if_pos rfl,if_pos S1];show _=Bk.afK o.testBit (L.getD ((K h.cl).getD p 0) 0) h.cl;rw[dz]
     .rw[if_neg e];by_cases hs:p∈seen
      .rw[if_pos hs,if_pos (by simp[hs])]
      .rw[if_neg hs,if_neg (by simp[hs,e])]
 refine eh.okv λ v U' hw⟨⟨h',Z,hv,d5⟩,hI,ht⟩=>?_
 have d0:(b.wo o.testBit).cs.length<=1000:=by
  show((b.kept o.testBit).map _).length<=_;rw[length_map];exact Nat.le_trans (Bk.kpt_len (out:=o.testBit) b.cs.length) O1
 obtain⟨ej,k1,k2,k3,k4⟩:=d5.freeze hw d0;exact⟨{ ej with M:=U.M },k1.trans (Z1 (by rw[k2];exact sublist_append_right ..)),⟨h',hv,k4,d5.rc⟩,⟨λ x q H=>k3.imm x q (hI x q H),rfl,k3.tok.trans ht⟩⟩
end Go.Proofs
namespace Go.TM
variable{T:Type}{P:Program}{S:Sys P T}{U U':Qa T}
def WR(x:List Int):Nat:=Z7 (x.map Int.toNat)
def Bk.every(b:Bk):List Int:=(range b.cs.length).map λ(k:Nat)=>(k:Int)
def Bk.wdP(b:Bk)(r:Nat)(x:List Int):Bool:=(b.wo (WR x).testBit).fatR r==1
def Bk.wdL(b:Bk)(r:Nat):List Int:=(WP b.every (b.wdP r) 0 (b.cs.length+1)).getD []
def Bk.wdF(b:Bk)(r:Int):List Int:=if b.askF r=0 then b.wdL r.toNat else[]
def Iu{b:Bk}(h:b.cs.length<=5){q:List Int}(w:q.Sublist b.every):(∀n∈q,0<=n/\n<60)/\q.length<=5/\WR q<2^60:=by
 have e:∀n∈q,0<=n/\n<60:=λ n f=>by
  have:=w.subset f;simp only[Bk.every,mem_map,mem_range]at this;obtain⟨k,z,rfl⟩:=this;omega
 refine⟨e,?_,Hz (toNat_lt e)⟩;grind[Bk.every]
end Go.TM
namespace Go.Proofs
open Go.TM
variable{T:Type}{S:TM.Sys prog T}{U:Qa T}
attribute [local irreducible] Qb Zl Wt
def jV(h:BH)(b:Bk)(N:Zq U.frz h b)(F:b.Ok)(r:Nat)(hr:r<b.rs.length){b6 Z:Nat}(E:Zi U b6 #[.slice h.ra h.rl h.rc,.slice h.ca h.cl h.cc])(B:Zi U Z #[.int .i64 r]) :
  OZ S 86 #[] #[.pointer (some ⟨b6,0,none⟩),.pointer (some ⟨Z,0,none⟩)] (b.wdP r) b.every U:=by
 rintro q a cap Y hq⟨X,W,hI,rfl⟩I;obtain⟨V,q5,qo⟩:=Iu F.nc hq;have z:U.lg (⟨W,X++U.M,U.tok⟩:Qa T):=⟨hI,⟨X,rfl⟩,rfl⟩;generalize(⟨W,X++U.M,U.tok⟩:Qa T)=Y at I z;refine Qb.pure' (Qb.of (args:=[_,_,_]) DD Qf S1 ?_);have E:=E.lg z;have B:=B.lg z;refine⟨_,⟨rfl,E.rd⟩,?_⟩;refine⟨.int .i64 (WR q:Nat),λ U' f _=>?_,?_⟩
 .refine⟨XT.any,(Ja a q.length cap q (I.lg (Qp.trans f.lg)) O1 V).mono ?_⟩;rintro _ G⟨rfl,hU⟩-;exact⟨rfl,_,.refl _,hU▸.refl _⟩
 refine⟨_,B.sees3 (o:=0) rfl,λ v U'=>∃w:BH,v=w.v/\Zq U'.frz w (b.wo (WR q).testBit),λ v Y U2⟨w,e,N⟩f=>⟨w,e,N.lg f.lg.frz2⟩,λ U' f _=>?_,λ v hv=>?_⟩
 .refine⟨Ow.any,(LS h b (N.lg (z.frz2.trans f.lg.frz2)) F (WR q) qo).mono ?_⟩;rintro v G⟨⟨w,e,P,-⟩,H⟩-;exact⟨G,.refl _,⟨w,e,P⟩,H⟩
 obtain⟨_,-,-,w,rfl,-⟩:=hv
 conv=>whnf
 intro U2 L hC;obtain⟨-,K,e,Q⟩:=hC;have e':=Value.agg.inj e
 obtain rfl:w=K:=by
  obtain⟨x1,x2,x3,x4,x5,x6⟩:=w;simp_all
 refine⟨Gi.any,(Kj w _ Q (F.wo _) r hr).go λ _=>?_⟩
 repeat refine⟨rfl,?_⟩
 conv=>whnf
 exact L.lg
def Tryz.WithdrawR_ok(h:BH)(b:Bk)(Z:Zq U.frz h b)(hk:WA U)(r:Int):Qb S 39 #[h.v,.int .i64 r] (λ v U'=>(∃E,v=.tuple #[E,.int .i64 (b.askF r)]/\QG U'.frz E (b.wdF r))/\U.le U') U:=by
 refine Qb.grown (R:=λ v U'=>∃E,v=.tuple #[E,.int .i64 (b.askF r)]/\QG U' E (b.wdF r)) (λ v X Y hl⟨E,e,h1⟩=>⟨E,e,h1.lg hl⟩) (Qb.of (args:=[_,_]) Lr Qf S1 ?_);have T:=Z.cs.1
 repeat refine⟨rfl,?_⟩
 conv=>whnf
 intro B X aa K;have K:Zi X B #[.slice h.ra h.rl h.rc,.slice h.ca h.cl h.cc]:=K
 conv=>whnf
 intro b3 Y Q z;have z:Zi Y b3 #[.int .i64 r]:=z;have K:=K.le Q;have w:=aa.trans Q;refine⟨_,⟨rfl,K.rd⟩,?_⟩;refine⟨_,z.sees3 (o:=0) rfl,PL.any,(Kb h b (Z.lg w.lg.frz2) (hk.lg w.lg) r).go λ _=>?_⟩
 conv=>whnf
 intro b6 V;refine⟨_,.refl _,?_⟩;by_cases M:b.askF r=0
 .obtain⟨hok,hr0,hr1⟩:=Bk.askF_ok M;obtain⟨q,rfl⟩:=Int.eq_ofNat_of_zero_le hr0;have hq:q<b.rs.length:=by unfold Bk.nr at hr1;omega
  have ae:=hok.nc;have P:b.wdF (q:Int)=b.wdL q:=by unfold Bk.wdF;rw[if_pos M,Int.toNat_natCast]
  rw[if_pos M,M,P];refine⟨rfl,Zt (vs:=[.slice h.ra h.rl h.rc,.slice h.ca h.cl h.cc]) V rfl (by simp[Value.single]) λ U3 F G=>?_⟩;have G:Zi U3 b6 #[.slice h.ra h.rl h.rc,.slice h.ca h.cl h.cc]:=G;have z:=z.le F;have K:=K.le F;have I:=w.trans F
  repeat refine⟨rfl,?_⟩
  refine⟨_,⟨rfl,G.rd⟩,?_⟩;refine⟨_,K.sees3 (o:=1) rfl,λ v U'=>Jd U'.frz v b.every,λ v X Y W f=>W.lg f.lg.frz2,λ U' f _=>?_,λ v N=>?_⟩
  .refine⟨YU.any,(FD h b (Z.lg (I.lg.frz2.trans f.lg.frz2)) O1).mono ?_⟩;rintro v L⟨N,H⟩-;exact⟨L,.refl _,N,H⟩
  obtain⟨_,-,-,ea,ec,rfl,-⟩:=N;have ac:b.every.length=h.cl:=by simp[Bk.every,T]
  refine⟨λ v U'=>∃E,v=.tuple #[E,.bool (WP b.every (b.wdP q) 0 (b.cs.length+1)).isSome]/\QG U'.frz E (b.wdL q),λ v X Y⟨E,e,W⟩f=>⟨E,e,W.lg f.lg.frz2⟩,λ U' f hC=>?_,λ v N=>?_⟩
  .obtain⟨-,ea',ec',e1,hei⟩:=hC;cases e1;have hz:U3.frz.lg U'.frz:=f.lg.frz2;have hl:=EU (S:=S) (U:=U') b.every ea ec (Eu hei) (by rw[ac];omega) b.cs.length O1 86 #[] #[.pointer (some ⟨b6,0,none⟩),.pointer (some ⟨b3,0,none⟩)] DD.any (b.wdP q) (jV h b (Z.lg (I.lg.frz2.trans hz)) hok q hq (G.le f) (z.le f))
   conv=>whnf
   rw[<- T];refine⟨O6.any,hl.mono ?_⟩;rintro v L⟨N,H⟩-;exact⟨L,.refl _,N,H⟩
  obtain⟨_,-,-,E,rfl,wa,wc,rfl,-⟩:=N
  conv=>whnf
  intro U4 ab hC;obtain⟨-,ad,e1,W⟩:=hC
  obtain⟨e2,-⟩:(Value.slice wa (b.wdL q).length wc=ad)/\True:=by
   have:=Value.tuple.inj e1;simp at this;exact⟨this,trivial⟩
  subst e2
  repeat refine⟨rfl,?_⟩
  conv=>whnf
  exact⟨⟨_,rfl,W⟩,(I.trans ab).lg⟩
 .have P:b.wdF r=[]:=by unfold Bk.wdF;rw[if_neg M]
  rw[if_neg M,P];refine⟨rfl,Zt (vs:=[.slice none 0 0,.slice none 0 0]) V rfl (by simp[Value.single]) λ U3 F G=>?_⟩
  repeat refine⟨rfl,?_⟩
  conv=>whnf
  apply Qe<;>intro hc
  .repeat refine⟨rfl,?_⟩
   conv=>whnf
   exact⟨⟨_,rfl,.nil⟩,(w.trans F).lg⟩
  .exact absurd (by simpa using hc) M
def pJ(h:BH)(b:Bk)(B:Zq U.frz h b)(E:WA U)(r:Int):Qb S 39 #[h.v,.int .i64 r] (λ v U'=>(∃f,v=.tuple #[f,.int .i64 (b.askF r)]/\Jd U'.frz f (b.wdF r))/\U.le U') U:=
 (Tryz.WithdrawR_ok h b B E r).mono λ v U'⟨⟨f,e,w⟩,z⟩=>⟨⟨f,e,w.v⟩,z⟩
end Go.Proofs
namespace Go.TM
variable{T:Type}{P:Program}{S:Sys P T}{U U':Qa T}
def Bk.dcS(b:Bk)(r d:Nat):Int:=(b.wo d.testBit).fatR r
def Bk.dcP(b:Bk)(r:Nat)(x:List Int):Bool:=(range (2^b.cs.length)).all λ d=>!(d&&&WR x==0&&b.dcS r d != b.dcS r 0)
def Bk.dcL(b:Bk)(r:Nat):List Int:=(WP b.every (b.dcP r) 0 (b.cs.length+1)).getD []
def Bk.dcF(b:Bk)(r:Int):List Int:=if b.askF r=0 then b.dcL r.toNat else[]
def Bk.dcM(b:Bk)(r m:Nat):List (Int×Value):=JM m (λ d=>(d:Nat)) λ d=>.int .i64 (b.dcS r d)
def Bk.dcM_succ(b:Bk)(r m:Nat):ZF ((m:Nat):Int) (.int .i64 (b.dcS r m)) (b.dcM r m)=b.dcM r (m+1):=by
 unfold Bk.dcM
 rw[(T5 (m:=m) (k:=((m:Nat):Int)) (ky:=λ d=>(d:Nat)) (vl:=λ d=>.int .i64 (b.dcS r d)) λ q f e=>by
  grind).2,EX]
def Bk.dcM_at(b:Bk){r m d:Nat}(h:d<m):lk ((d:Nat):Int) (b.dcM r m)=some (.int .i64 (b.dcS r d)):=
 Di (m:=m) (ky:=λ d=>((d:Nat):Int)) (vl:=λ d=>.int .i64 (b.dcS r d)) h λ q r _ _ e=>Int.ofNat.inj e
def Bk.dcM_len(b:Bk)(r m:Nat):(b.dcM r m).length=m:=DR _ _ _
def Bk.dcM_get(b:Bk){r m d:Nat}(h:d<m):(b.dcM r m)[d]?=some (((d:Nat):Int),.int .i64 (b.dcS r d)):=SI h
def L_{n:Nat}(h:n<=5):2^n<=32:=by
 have:=Nat.pow_le_pow_right (show 0<2 by omega) h;simpa using this
end Go.TM
namespace Go.Proofs
open Go.TM
variable{T:Type}{S:TM.Sys prog T}{U:Qa T}
attribute [local irreducible] Qb Zl Wt
def qT(b:Bk)(ag:b.cs.length<=5)(r:Nat){b8 mb:Nat}(L:Zi U b8 #[.map (some mb)])(hm:U.has mb (Qt QU (b.dcM r (2^b.cs.length)))) :
  OZ S 94 #[] #[.pointer (some ⟨b8,0,none⟩)] (b.dcP r) b.every U:=by
 rintro q a cap E hq⟨X,I',hI,rfl⟩ai;obtain⟨am,q5,qo⟩:=Iu ag hq;have ac:U.lg (⟨I',X++U.M,U.tok⟩:Qa T):=⟨hI,⟨X,rfl⟩,rfl⟩;have hm:(⟨I',X++U.M,U.tok⟩:Qa T).has mb (Qt QU (b.dcM r (2^b.cs.length))):=hm.imp (hI _ _) λ h=>mem_append_right _ h;generalize(⟨I',X++U.M,U.tok⟩:Qa T)=E at ai ac hm;have ao:=L_ ag;have ah:0<2^b.cs.length:=Nat.two_pow_pos _;refine Qb.pure' (Qb.of (args:=[_,_]) Fs Qf S1 ?_);have L:=L.lg ac;refine⟨_,L.sees3 (o:=0) rfl,?_⟩
 conv=>whnf
 refine OC (b:=mb) (enc:=QU) (l:=b.dcM r (2^b.cs.length)) OK rfl hm λ it an=>?_;rw[Bk.dcM_len];have aj:=Z4 (U:=E) it (Jz mb (2^b.cs.length) #[])
 refine⟨Array Nat,λ _=>[(0,.slice a q.length cap),(1,.pointer (some ⟨b8,0,none⟩)),(7,.pointer (some ⟨it,0,none⟩))],
  λ seen U'=>E.frz.lg U'/\U'.M=.obj it (Jz mb (2^b.cs.length) seen)::E.M/\seen.toList.Nodup/\(∀i∈seen.toList,i<2^b.cs.length)/\∀i∈seen,(!(i&&&WR q==0&&b.dcS r i != b.dcS r 0))=true,λ seen=>2^b.cs.length-seen.size,#[],T1,⟨Qp.trans aj,rfl,S1,S1,S1⟩,?_⟩
 rintro seen f U2⟨z,hM,ak,ad,G⟩;have ae:∀U':Qa T,(∀x o,E.I x=some o->U'.I x=some o)->(∀r∈E.M,r∈U'.M)->U'.has mb (Qt QU (b.dcM r (2^b.cs.length))):=λ U' Y h2=>hm.imp (Y _ _) (h2 _);have H:∀s,Jz mb (2^b.cs.length) s=Jz mb (b.dcM r (2^b.cs.length)).length s:=λ s=>by rw[Bk.dcM_len]
 conv=>whnf
 refine YX (b:=mb) (r:=it) (seen:=seen) (enc:=QU) (l:=b.dcM r (2^b.cs.length)) (λ o=>.obj it o::E.M) rfl (ae _ z.imm λ r hr=>by rw[hM];exact mem_cons_of_mem _ hr) (λ o=>by rw[hM,H];exact .here) (λ Z=>?_) (λ d p hp al=>?_)
 .have hP:b.dcP r q=true:=by
   unfold Bk.dcP;rw[all_eq_true];intro d hd;rw[mem_range]at hd;exact G d (Z d (by rw[Bk.dcM_len];exact hd))
  rw[hP]
  repeat refine⟨rfl,?_⟩
  conv=>whnf
  exact⟨z.imm,⟨[_],hM⟩,z.tok⟩
 .have hdl:d<2^b.cs.length:=by have:=(List.getElem?_eq_some_iff.1 hp).1;rwa [Bk.dcM_len]at this
  rw[b.dcM_get hdl]at hp;cases hp;have ab:d<2^60:=Nat.lt_of_lt_of_le (by omega:d<32) D1
  have K:(seen.push d).toList.Nodup:=by
   rw[Array.toList_push,nodup_append];refine⟨ak,S1,λ x hx y hy=>?_⟩;rw[mem_singleton.1 hy];rintro rfl;exact al (by simpa using hx)
  have B:∀j∈(seen.push d).toList,j<2^b.cs.length:=by
   intro j W;rw[Array.toList_push,mem_append]at W;rcases W with W|W
   .exact ad j W
   .rw[mem_singleton.1 W];exact hdl
  have Q:2^b.cs.length-(seen.push d).size<2^b.cs.length-seen.size:=by
   have:=H7 K B;rw[Array.length_toList,Array.size_push]at this;rw[Array.size_push];omega
  have e:E.frz.lg ({ U2 with M:=.obj it (Jz mb (b.dcM r (2^b.cs.length)).length (seen.push d))::E.M }:Qa T):=⟨z.imm,⟨_,(append_nil _).symm⟩,z.tok⟩;have F:({ U2 with M:=.obj it (Jz mb (b.dcM r (2^b.cs.length)).length (seen.push d))::E.M }:Qa T).M=.obj it (Jz mb (2^b.cs.length) (seen.push d))::E.M:=by rw[H]
  generalize({ U2 with M:=.obj it (Jz mb (b.dcM r (2^b.cs.length)).length (seen.push d))::E.M }:Qa T)=U3 at e F ⊢;have af:=ae U3 e.imm λ r hr=>by rw[F];exact mem_cons_of_mem _ hr
  have aa:=L.imI e.imm;have V:E.lg U3:=⟨e.imm,⟨[_],F⟩,e.tok⟩
  have w:∀h:(!(d&&&WR q==0&&b.dcS r d != b.dcS r 0))=true,∀i∈seen.push d,(!(i&&&WR q==0&&b.dcS r i != b.dcS r 0))=true:=λ h i hi=>by
   rcases Array.mem_push.1 hi with hi|rfl
   .exact G i hi
   .exact h
  have P:(d&&&WR q==0&&b.dcS r d != b.dcS r 0)=true->b.dcP r q=false:=λ h=>by
   cases hh:b.dcP r q with
   |false=>rfl
   |true=>
    unfold Bk.dcP at hh;rw[all_eq_true]at hh;have:=hh d (by simpa using hdl);rw[h]at this;cases this
  repeat refine⟨rfl,?_⟩
  conv=>whnf
  refine Su (b:=mb) (r:=it) (seen:=seen) (enc:=QU) (l:=b.dcM r (2^b.cs.length)) rfl af (.inr (by rw[F,H];exact mem_cons_self ..)) (b.dcM_get hdl) ?_;refine⟨XT.any,(Ja a q.length cap q (ai.lg e) O1 am).go λ _=>?_⟩;have hand:=SS ab qo
  have N:((IntKind.wrap .i64 ((BitVec.ofInt 64 ((d:Nat):Int)&&&BitVec.ofInt 64 ((WR q:Nat):Int)).toNat:Int))==0)=(d&&&WR q==0):=by
   rw[hand,Bool.eq_iff_iff,beq_iff_eq,beq_iff_eq];omega
  repeat refine⟨rfl,?_⟩
  conv=>whnf
  apply Zr<;>intro hc
  .have Y:(d&&&WR q==0)=true:=N.symm.trans hc;rw[Y,Bool.true_and]at P w;refine⟨_,aa.sees3 (o:=0) rfl,?_⟩
   conv=>whnf
   refine Ts (b:=mb) (k:=((0:Nat):Int)) (l:=b.dcM r (2^b.cs.length)) Pr OK wm rfl rfl af ?_;rw[b.dcM_at ah,Option.getD_some]
   repeat refine⟨rfl,?_⟩
   conv=>whnf
   apply Qe<;>intro hc
   .rw[P hc]
    repeat refine⟨rfl,?_⟩
    conv=>whnf
    exact V
   .have hc':(b.dcS r d != b.dcS r 0)=false:=hc;rw[hc']at w
    conv=>whnf
    exact⟨rfl,seen.push d,T1,⟨e,F,K,B,w rfl⟩,Q⟩
  .have Y:(d&&&WR q==0)=false:=N.symm.trans hc;rw[Y,Bool.false_and]at w
   conv=>whnf
   exact⟨rfl,seen.push d,T1,⟨e,F,K,B,w rfl⟩,Q⟩
def Tryz.DecideR_ok(h:BH)(b:Bk)(hb:Zq U.frz h b)(hk:WA U)(r:Int):Qb S 44 #[h.v,.int .i64 r] (λ v U'=>(∃L,v=.tuple #[L,.int .i64 (b.askF r)]/\QG U'.frz L (b.dcF r))/\U.le U') U:=by
 refine Qb.grown (R:=λ v U'=>∃L,v=.tuple #[L,.int .i64 (b.askF r)]/\QG U' L (b.dcF r)) (λ v U1 Z hl⟨L,e,h1⟩=>⟨L,e,h1.lg hl⟩) (Qb.of (args:=[_,_]) T8 Qf S1 ?_);have ac:=hb.cs.1
 repeat refine⟨rfl,?_⟩
 conv=>whnf
 intro B U1 T hB;have hB:Zi U1 B #[.slice h.ra h.rl h.rc,.slice h.ca h.cl h.cc]:=hB;refine⟨_,⟨rfl,hB.rd⟩,?_⟩;refine⟨PL.any,(Kb h b (hb.lg T.lg.frz2) (hk.lg T.lg) r).go λ _=>?_⟩
 conv=>whnf
 intro b6 ae;refine⟨_,.refl _,?_⟩;by_cases hF:b.askF r=0
 .obtain⟨hok,hr0,hr1⟩:=Bk.askF_ok hF;obtain⟨q,rfl⟩:=Int.eq_ofNat_of_zero_le hr0;have hq:q<b.rs.length:=by unfold Bk.nr at hr1;omega
  have ai:=hok.nc;have aq:=L_ ai;have ad:b.dcF (q:Int)=b.dcL q:=by unfold Bk.dcF;rw[if_pos hF,Int.toNat_natCast]
  rw[if_pos hF,hF,ad];refine⟨rfl,Zt (vs:=[.slice h.ra h.rl h.rc,.slice h.ca h.cl h.cc]) ae rfl (by simp[Value.single]) λ Z ag V=>?_⟩;have V:Zi Z b6 #[.slice h.ra h.rl h.rc,.slice h.ca h.cl h.cc]:=V;have hB:=hB.le ag;have F:=T.trans ag
  repeat refine⟨rfl,?_⟩
  conv=>whnf
  refine Pu QU λ mb ao=>?_
  conv=>whnf
  intro b8 ah;refine⟨_,.refl _,rfl,Zt (vs:=[.map (some mb)]) ah rfl (by simp[Value.single]) λ U3 K al=>?_⟩
  have af:U3.M=.obj mb (Qt QU (b.dcM q 0))::U.M:=by
   rw[K.own];show _::Z.M=_;rw[F.own];rfl
  have G:Z.frz.lg U3:=⟨λ x o Y=>K.imm x o Y,⟨_,(append_nil _).symm⟩,K.tok⟩
  have e1:IntKind.wrap .i64 ((1:Int)*2^(min ((h.cl:Int).toNat) (IntKind.bits .i64)))=((2^b.cs.length:Nat):Int):=by
   rw[ac,<- Nat.one_shiftLeft];exact Yn O1
  clear ae ah ao K;refine⟨_,(hB.imI G.imm).sees3 (o:=1) rfl,O1,?_⟩;rw[e1]
  refine⟨Nat,λ m=>[(1,.int .i64 q),(2,.pointer (some ⟨B,0,none⟩)),(6,.pointer (some ⟨b6,0,none⟩)),(8,.pointer (some ⟨b8,0,none⟩)),(25,.int .i64 (2^b.cs.length:Nat)),(26,.int .i64 m)],
   λ m U'=>U3.frz.lg U'/\U'.M=.obj mb (Qt QU (b.dcM q m))::U.M/\m<=2^b.cs.length,λ m=>2^b.cs.length-m,0,T1,⟨⟨λ _ _ h=>h,⟨_,(append_nil _).symm⟩,rfl⟩,af,Nat.zero_le _⟩,?_⟩
  rintro m f U4⟨P,hM,hm⟩;have an:Zu ((m:Int)+1):=I1
  have N:∀x o,Z.I x=some o->U4.I x=some o:=λ x o Y=>P.imm x o (G.imm x o Y);have aa:=V.imI N;have ab:=al.imI P.imm;have W:U.frz.lg U4.frz:=⟨λ x o Y=>N x o (F.imm x o Y),⟨[],rfl⟩,P.tok.trans (G.tok.trans F.tok)⟩
  repeat refine⟨rfl,?_⟩
  conv=>whnf
  apply Qe<;>intro hc
  .have hlt:m<2^b.cs.length:=Int.ofNat_lt.1 (of_decide_eq_true hc);refine⟨_,ab.sees3 (o:=0) rfl,_,⟨rfl,aa.rd⟩,?_⟩;refine⟨λ v U'=>∃Q:BH,v=Q.v/\Zq U'.frz Q (b.wo m.testBit),λ v U1 Z⟨Q,e,hb⟩w=>⟨Q,e,hb.lg w.lg.frz2⟩,λ U' w _=>?_,λ v X=>?_⟩
   .refine⟨Ow.any,(LS h b (hb.lg (W.trans w.lg.frz2)) hok m (Nat.lt_of_lt_of_le (by omega:m<32) D1)).mono ?_⟩;rintro v H⟨⟨Q,e,ak,-⟩,z⟩-;exact⟨H,.refl _,⟨Q,e,ak⟩,z⟩
   obtain⟨_,-,-,Q,rfl,-⟩:=X;refine⟨.int .i64 (b.dcS q m),λ U' w hC=>?_,?_⟩
   .obtain⟨-,h'',e,hbw⟩:=hC;have e':=Value.agg.inj e
    obtain rfl:Q=h'':=by
     obtain⟨x1,x2,x3,x4,x5,x6⟩:=Q;obtain⟨y1,y2,y3,y4,y5,y6⟩:=h'';simp at e';simp[e']
    refine⟨Gi.any,(Kj Q _ hbw (hok.wo _) q hq).mono ?_⟩;rintro _ H⟨rfl,hU⟩-;exact⟨rfl,_,.refl _,hU▸.refl _⟩
   conv=>whnf
   intro U5 E _
   conv=>whnf
   refine Uv (b:=mb) (k:=((m:Nat):Int)) (l:=b.dcM q m) (v:=.int .i64 (b.dcS q m)) (M':=.obj mb (Qt QU (b.dcM q (m+1)))::U.M) Pr OK rfl rfl rfl (by rw[E.own,hM,b.dcM_succ];exact .here) ?_;refine⟨an,?_⟩
   conv=>whnf
   exact⟨rfl,m+1,T1,⟨⟨λ x o Y=>E.imm x o (P.imm x o Y),⟨_,(append_nil _).symm⟩,E.tok.trans P.tok⟩,rfl,O1⟩,L1⟩
  .have hge:m=2^b.cs.length:=Nat.le_antisymm hm (Nat.le_of_not_lt λ h=>absurd (Int.ofNat_lt.2 h) (of_decide_eq_false hc));subst hge;have aj:=hB.imI N;refine⟨_,⟨rfl,aa.rd⟩,?_⟩;refine⟨_,aj.sees3 (o:=1) rfl,λ v U'=>Jd U'.frz v b.every,λ v U1 Z hi w=>hi.lg w.lg.frz2,λ U' w _=>?_,λ v X=>?_⟩
   .refine⟨YU.any,(FD h b (hb.lg (W.trans w.lg.frz2)) O1).mono ?_⟩;rintro v H⟨X,z⟩-;exact⟨H,.refl _,X,z⟩
   obtain⟨_,-,-,ea,ec,rfl,-⟩:=X;have am:b.every.length=h.cl:=by simp[Bk.every,ac]
   refine⟨λ v U'=>∃L,v=.tuple #[L,.bool (WP b.every (b.dcP q) 0 (b.cs.length+1)).isSome]/\QG U'.frz L (b.dcL q),λ v U1 Z⟨L,e,hi⟩w=>⟨L,e,hi.lg w.lg.frz2⟩,λ U' w hC=>?_,λ v X=>?_⟩
   .obtain⟨-,ea',ec',e1,hei⟩:=hC;cases e1;have hl:=EU (S:=S) (U:=U') b.every ea ec (Eu hei) (by rw[am];omega) b.cs.length O1 94 #[] #[.pointer (some ⟨b8,0,none⟩)] Fs.any (b.dcP q) (qT b ai q (ab.le w) (.inr (by rw[w.own,hM];exact mem_cons_self ..)))
    conv=>whnf
    rw[<- ac];refine⟨O6.any,hl.mono ?_⟩;rintro v H⟨X,z⟩-;exact⟨H,.refl _,X,z⟩
   obtain⟨_,-,-,L,rfl,wa,wc,rfl,-⟩:=X
   conv=>whnf
   intro U5 E hC;obtain⟨-,ap,e1,hi⟩:=hC
   obtain⟨e2,-⟩:(Value.slice wa (b.dcL q).length wc=ap)/\True:=by
    have:=Value.tuple.inj e1;simp at this;exact⟨this,trivial⟩
   subst e2
   repeat refine⟨rfl,?_⟩
   refine⟨⟨_,rfl,hi⟩,⟨λ x o Y=>E.imm x o (W.imm x o Y),⟨[_],E.own.trans hM⟩,E.tok.trans W.tok⟩⟩
 .have ad:b.dcF r=[]:=by unfold Bk.dcF;rw[if_neg hF]
  rw[if_neg hF,ad];refine⟨rfl,Zt (vs:=[.slice none 0 0,.slice none 0 0]) ae rfl (by simp[Value.single]) λ U3 K V=>?_⟩
  repeat refine⟨rfl,?_⟩
  conv=>whnf
  apply Qe<;>intro hc
  .repeat refine⟨rfl,?_⟩
   conv=>whnf
   exact⟨⟨_,rfl,.nil⟩,(T.trans K).lg⟩
  .exact absurd (by simpa using hc) hF
def DZ(h:BH)(b:Bk)(B:Zq U.frz h b)(E:WA U)(r:Int):Qb S 44 #[h.v,.int .i64 r] (λ v U'=>(∃f,v=.tuple #[f,.int .i64 (b.askF r)]/\Jd U'.frz f (b.dcF r))/\U.le U') U:=
 (Tryz.DecideR_ok h b B E r).mono λ v U'⟨⟨f,e,w⟩,z⟩=>⟨⟨f,e,w.v⟩,z⟩
end Go.Proofs
namespace Go.TM
variable{T:Type}{P:Program}{S:Sys P T}{U U':Qa T}
def Ep{n:Int}:∀{l:List Int},l.Pairwise (· < ·)->n∉l->(ZH n l).Pairwise (· < ·)
 |[],_,_=>by simp[ZH]
 |y::l,h,w=>by
  obtain⟨f,z⟩:=pairwise_cons.1 h;unfold ZH;split
  .refine pairwise_cons.2 ⟨λ x b=>?_,Ep z λ B=>w (by simp[B])⟩;rcases(Pd n x l).1 b with rfl|b
   .assumption
   .exact f x b
  .rename_i hge;have E:n≠y:=λ e=>w (by simp[e]);refine pairwise_cons.2 ⟨λ x b=>?_,h⟩;rcases mem_cons.1 b with rfl|b
   .omega
   .have:=f x b;omega
structure Bk.Ok1(b:Bk):Prop where
 nr:b.rs.length<=6
 nc:b.cs.length<=5
 ag:∀c∈b.cs,0<=c.ag/\c.ag<b.nr
 gl:∀c∈b.cs,c.gs.length<=3
 gs:∀c∈b.cs,∀g∈c.gs,g.length<=3/\∀n∈g,0<=n/\n<b.nr
 ri:∀c∈b.cs,c.af.Pairwise (· < ·)
 af:∀c∈b.cs,∀n∈c.af,0<=n/\n<b.nc
def Bk.Ok.ok1{b:Bk}(h:b.Ok):b.Ok1:=⟨h.nr,h.nc,h.ag,h.gl,h.gs,λ _ e=>(h.asc e).2,h.af⟩
def Bk.Ok1.ok{b:Bk}(h:b.Ok1)(w:Wq b.A=false):b.Ok:=
 ⟨h.nr,h.nc,h.ag,h.gl,h.gs,λ c f=>YE (h.ri c f) (h.af c f) (λ m e=>by cases e),h.af,w⟩
def Bk.Ok1.low{b:Bk}(h:b.Ok1):b.Low:=⟨h.nc,h.af⟩
structure Bk.Fr(b:Bk)(s:Int×Int):Prop where
 c0:0<=s.1
 cl:s.1.toNat<b.cs.length
 u0:0<=s.2
 ul:s.2<b.nc
 no:s.2∉(b.cas s.1.toNat).af
def Bk.sty_cs(b:Bk)(s:Int×Int){c:Cs}(h:c∈(b.sty s).cs):c∈b.cs\/c={ b.cas s.1.toNat with af:=ZH s.2 (b.cas s.1.toNat).af }:=mem_or_eq_of_mem_set h
def Bk.Ok1.sty{b:Bk}(h:b.Ok1){s:Int×Int}(z:b.Fr s):(b.sty s).Ok1:=by
 have f:=Bk.cas_mem z.cl;have w:(b.sty s).nc=b.nc:=by unfold Bk.nc;rw[b.sty_len]
 refine⟨h.nr,by rw[b.sty_len];exact h.nc,λ c e=>?_,λ c e=>?_,λ c e=>?_,λ c e=>?_,λ c e=>?_⟩ <;> rcases b.sty_cs s e with e|rfl
 .exact h.ag c e
 .exact h.ag (b.cas s.1.toNat) f
 .exact h.gl c e
 .exact h.gl (b.cas s.1.toNat) f
 .exact h.gs c e
 .exact h.gs (b.cas s.1.toNat) f
 .exact h.ri c e
 .exact Ep (h.ri _ f) z.no
 .rw[w];exact h.af c e
 .rw[w];intro n B;rcases(Pd s.2 n _).1 B with rfl|B
  .exact⟨z.u0,z.ul⟩
  .exact h.af _ f n B
def Bk.Fr.sty{b:Bk}{s f:Int×Int}(z:b.Fr s)(h:b.Fr f)(B:f≠s):(b.sty s).Fr f:=by
 refine⟨h.c0,by rw[b.sty_len];exact h.cl,h.u0,by unfold Bk.nc;rw[b.sty_len];exact h.ul,?_⟩;by_cases e:s.1.toNat=f.1.toNat
 .have e2:f.1=s.1:=by have:=z.c0;have:=h.c0;omega
  have:(b.sty s).cas f.1.toNat={ b.cas s.1.toNat with af:=ZH s.2 (b.cas s.1.toNat).af }:=by
   refine Bk.cas_at ?_;show(b.cs.set s.1.toNat _)[f.1.toNat]?=_;rw[getElem?_set,if_pos e,if_pos z.cl]
  rw[this];intro w;rcases(Pd s.2 f.2 _).1 w with E|w
  .grind
  .exact h.no S2
 .have:(b.sty s).cas f.1.toNat=b.cas f.1.toNat:=by
   show(b.cs.set s.1.toNat _).getD f.1.toNat default=_;rw[getD_eq_getElem?_getD,getElem?_set,if_neg e,<- getD_eq_getElem?_getD];rfl
  rw[this];exact h.no
def Bk.Ok1.stys{b:Bk}(h:b.Ok1):∀{l:List (Int×Int)},(∀s∈l,b.Fr s)->l.Nodup->(b.stys l).Ok1:=by
 intro l
 induction l generalizing b with
 |nil=>exact λ _ _=>h
 |cons s l F=>
  intro w E;obtain⟨z,B⟩:=nodup_cons.1 E;exact F (b:=b.sty s) (h.sty (w s S1)) (λ G f=>(w s S1).sty (w G (by simp[f])) λ e=>z (e▸f)) B
theorem Bk.stys_rs(b:Bk)(l:List (Int×Int)):(b.stys l).rs=b.rs:=by
 induction l generalizing b with
 |nil=>rfl
 |cons s l e=>exact e (b.sty s)
def Bk.cans_fr{b:Bk}{s:Int×Int}(h:s∈b.cans):b.Fr s:=by
 simp only[Bk.cans,mem_flatMap,mem_range,mem_map,mem_filter,Bool.and_eq_true,Bool.not_eq_true',contains_eq_mem,decide_eq_false_iff_not]at h;obtain⟨i,f,k,⟨w,-,e⟩,rfl⟩:=h;exact⟨S1,by simpa using f,S1,by grind[Bk.nc],by simpa using e⟩
def Bk.good(b:Bk)(r:Nat)(w:Int)(l:List (Int×Int)):Bool:=!Wq (b.stys l).A&&(b.stys l).fatR r==w
end Go.TM
namespace Go.Proofs
open Go.TM
variable{T:Type}{S:TM.Sys prog T}{U:Qa T}
attribute [local irreducible] Qb Zl Wt
def RF(h:BH)(b:Bk)(H:Zq U.frz h b)(e:b.Ok)(l:List (Int×Int))(a:Option Addr)(c:Nat)(I:Q5 U a l.length 2 l (λ x vs=>vs=encII x))(w:l.length<=6)(f:∀s∈l,b.Fr s) :
  Qb S 144 #[h.v,.slice a l.length c] (λ v U'=>(∃z:BH,v=z.v/\Zq U'.frz z (b.stys l))/\U.le U') U:=by
 have K:=e.nc;refine(BO h b H e.sml l a c I w e.srt λ s E=>⟨(f s E).c0,(f s E).cl⟩).okv λ v U' P⟨⟨z,N,L⟩,G,M⟩=>?_;obtain⟨B,T,V,F,W⟩:=L.freeze P (by rw[Bk.stys_len];omega);exact⟨B,T,⟨z,N,W⟩,⟨λ x q Q=>F.imm x q (G x q Q),V,F.tok.trans M⟩⟩
end Go.Proofs
namespace Go.TM
open Go.Proofs (encII)
variable{T:Type}{P:Program}{S:Sys P T}{U U':Qa T}
def jp{α:Type}{enc:α->List Value}{n:Nat}(F:∀x,(enc x).length=n){a:Option Addr}{l:List α}(h:Q5 U a l.length n l λ x vs=>vs=enc x)(b:0<n):QS U a (l.flatMap enc):=by
 cases a with
 |none=>
  cases l with
  |nil=>exact .inl ⟨rfl,rfl⟩
  |cons x l=>
   obtain⟨f,vs,e,_⟩:=h.2 0 x rfl;cases e
 |some f=>
  refine .inr ⟨f,rfl,λ j v G=>?_⟩;have E:=(List.getElem?_eq_some_iff.1 G).1;rw[Q0 F]at E;have B:j / n<l.length:=Nat.div_lt_of_lt_mul (by rw[Nat.mul_comm];exact E);have I:j % n<n:=Nat.mod_lt _ b;obtain⟨H,vs,e,L,rfl,N,K⟩:=h.2 (j / n) _ (getElem?_eq_getElem B);cases e;have w:j / n*n+j % n=j:=by rw[Nat.mul_comm];exact Nat.div_add_mod j n
  have z:=P9 F (getElem?_eq_getElem B) I;rw[w,G]at z;have M:=K (j % n) v z.symm;obtain⟨bb,P,Q⟩:=f;grind[Qo,Nat.add_assoc]
def ZG:Option (List (Int×Int))->Option (List (Int×Int))->Option (List (Int×Int))
 |none,y=>y
 |some x,none=>some x
 |some x,some y=>some (if Q_ x y<0 then x else y)
def nb(l:List (Int×Int)):Option (List (Int×Int))->List (Int×Int)
 |none=>l
 |some y=>if Q_ l y<0 then l else y
def SA(f:Fm)(x:Operand)(v:Value)(h:Zj f x=v):((#[]++Array.map (Zj f) #[x])++#[]:Array Value)=#[v]:=by simp[h]
def Pb(fb bb:Nat)(o:Option (List (Int×Int)))(M:List Qx):Prop:=∃a l c A,Jw 84 2 (.slice a l c) ((o.getD []).flatMap encII) A/\(∀x,o=some x->l=x.length)/\M=.obj fb (.cells [.bool o.isSome].toArray 4 (0,0))::.obj bb (.cells [.slice a l c].toArray 68 (0,0))::A
def JE(fb bb:Nat)(e f:Option (List (Int×Int)))(a b:Bool):TM.Spec:=Pb fb bb (ZG (if a then e else none) (if b then f else none))
structure HP(U:Qa T)(h:BH)(b:Bk)(r:Nat)(w:Int)(i:Nat)(bcan bfst bbk brt bwt:Nat):Prop where
 can:∃a c,Zi U bcan #[.slice a b.cans.length c]/\Q5 U.frz a b.cans.length 2 b.cans (λ x vs=>vs=encII x)/\b.cans.length<=c
 fst:Zi U bfst #[.int .i64 i]
 bk:Zi U bbk #[.slice h.ra h.rl h.rc,.slice h.ca h.cl h.cc]
 bv:Zq U.frz h b
 rt:Zi U brt #[.int .i64 r]
 wt:Zi U bwt #[.int .i64 w]
def HP.imI{h:BH}{b:Bk}{r i:Nat}{w:Int}{bcan bfst bbk brt bwt:Nat}(k:HP U h b r w i bcan bfst bbk brt bwt)(e:∀x o,U.I x=some o->U'.I x=some o)(f:U'.tok=U.tok):HP U' h b r w i bcan bfst bbk brt bwt:=
 ⟨let ⟨a,c,h1,h2,h3⟩:=k.can;⟨a,c,h1.imI e,h2.lg ⟨e,⟨[],rfl⟩,f⟩ (λ _ _ h=>h),h3⟩,k.fst.imI e,k.bk.imI e,k.bv.lg ⟨e,⟨[],rfl⟩,f⟩,k.rt.imI e,k.wt.imI e⟩
end Go.TM
namespace Go.Proofs
open Go.TM
attribute [local irreducible] Qb Zl Wt
set_option maxHeartbeats 2000000 in
def zh{U₀:Qa Tk}(h:BH)(b:Bk)(bq:b.Ok)(b7:b.cans.Nodup)(r:Nat)(hr:r<b.rs.length)(w:Int)(i:Nat){bcan bfst bbk brt bwt lm fb bb g:Nat}{D:TM.Spec}{ci:Int×Int}(a4:b.cans[i]?=some ci)(he:HP U₀ h b r w i bcan bfst bbk brt bwt)
  (B F:Option (List (Int×Int))) (a0:∀x,B=some x\/F=some x->x.length<=1000) (co:∀x y,B=some x->F=some y->(if Q_ y x<0 then y else x)=(if Q_ x y<0 then x else y))
  (m:Nat) (hm:m<=5) (mt:Option ZS) (cp:U₀.tok=⟨0,.wrk g D,mt⟩)
  (ao:∀k q,(TM.parts (b.cans.drop (i+1)) m)[k]?=some q->(∀q'∈(TM.parts (b.cans.drop (i+1)) m).take k,b.good r w (ci::q')=false)->b.good r w (ci::q)=true->∃s lo,mt=some (.lok ⟨lm,202,JE fb bb B F⟩ s .idle lo)/\(if s then F else B)=some (ci::q)) :
  Gf Q7 143 #[] #[.pointer (some ⟨bcan,0,none⟩),.pointer (some ⟨bfst,0,none⟩),.pointer (some ⟨bbk,0,none⟩),.pointer (some ⟨brt,0,none⟩),.pointer (some ⟨bwt,0,none⟩),.pointer (some ⟨lm,0,none⟩),.pointer (some ⟨fb,0,none⟩),.pointer (some ⟨bb,0,none⟩)] encII 2 (TM.parts (b.cans.drop (i+1)) m)
   (λ k U'=>U'.tok=⟨0,.wrk g D,mt⟩/\∀q∈(TM.parts (b.cans.drop (i+1)) m).take k,b.good r w (ci::q)=false)
   (λ U'=>∃s lo,U'.tok=⟨0,.wrk g D,some (.lok ⟨lm,202,JE fb bb B F⟩ s .fin lo)⟩) U₀:=by
 intro k q qa qc U X Mc hq h0 a8 aq hM⟨au,b8⟩;have au:U.tok=⟨0,.wrk g D,mt⟩:=au;have he:=HP.imI (U':=U) he h0.imm h0.tok;obtain⟨ce,cr⟩:=Gk.1 (mem_of_getElem? hq)
 have az:(ci::q).Sublist b.cans:=by
  have h1:b.cans.drop i=ci::b.cans.drop (i+1):=WT a4;have h2:(ci::q).Sublist (b.cans.drop i):=by rw[h1];exact ce.cons_cons ci
  exact h2.trans (drop_sublist i b.cans)
 have bm:∀s∈ci::q,b.Fr s:=λ s hs=>Bk.cans_fr (az.subset hs);have ay:(b.stys (ci::q)).Ok1:=bq.ok1.stys bm (b7.sublist az);have bp:(ci::q).length<=6:=S3
 have bo:i<b.cans.length:=(List.getElem?_eq_some_iff.1 a4).1;refine Qb.post (R:=λ v U'=>(v=.bool false/\b.good r w (ci::q)=false/\U.lg U')\/(v=.bool true/\(∃s lo,U'.tok=⟨0,.wrk g D,some (.lok ⟨lm,202,JE fb bb B F⟩ s .fin lo)⟩)/\∀x o,U.I x=some o->U'.I x=some o)) ?_ λ v U' hv=>?_
 rotate_left
 .rcases hv with⟨rfl,hg,ap⟩|⟨rfl,ht,hI⟩
  .obtain⟨A,hA⟩:=ap.own;refine⟨{ U' with M:=U.M },Z1 (by rw[hA];exact sublist_append_right ..),.inl ⟨rfl,⟨ap.imm,⟨[],rfl⟩,ap.tok⟩,Mc,hM,ap.tok.trans au,λ q' b9=>?_⟩⟩;rw[Ji hq,mem_append]at b9;grind
  .exact⟨U',.refl _,.inr ⟨rfl,[],U'.M,rfl,ht,hI⟩⟩
 refine Qb.ofD (args:=[_,_,_,_,_,_,_,_,_]) EZ Qf S1 ?_;obtain⟨ca,cc,b2,b3,-⟩:=he.can;obtain⟨ad,x,vs,V,rfl,cm,rfl,-,cf⟩:=b3.at bo;rw[a4]at V;cases V;refine⟨_,b2.sees3 (o:=0) rfl,_,he.fst.sees3 (o:=0) rfl,ad,i,⟨rfl,rfl,bo⟩,_,⟨rfl,cf.lg Qp⟩,?_⟩
 conv=>whnf
 intro K bl;refine⟨U.put K (.cells (encII ci).toArray 84),.refl _,?_⟩;have H:=Z4 (U:=U) K (.cells (encII ci).toArray 84);have a3:(U.put K (.cells (encII ci).toArray 84)).M=.obj K (.cells (encII ci).toArray 84 (0,0))::U.M:=rfl;generalize U.put K (.cells (encII ci).toArray 84)=Up at H a3 ⊢
 conv=>whnf
 refine Ws (v:=.slice (some ⟨K,0,none⟩) 1 1) (cs:=encII ci) (new:=q.flatMap encII) (M₀:=U.M) Y5 rfl rfl (.inr ⟨K,(encII ci).toArray,1,1,rfl,rfl,Nat.le_refl _,rfl,a3,λ k v hv=>by simpa using hv⟩) (jp (enc:=encII) (n:=2) (λ _=>rfl) (a8.lg (Qp.trans H) λ _ _ h=>h) D1) (Q0 (f:=encII) (n:=2) (λ _=>rfl) q) (λ v hv=>by
  obtain⟨y,-,hy⟩:=mem_flatMap.1 hv;simp[encII]at hy;rcases hy with rfl|rfl <;> rfl) (by rw[Q0 (f:=encII) (n:=2) (λ _=>rfl)];grind[encII]) λ v' M' ae _=>?_
 have ae:Acc 84 2 v' ((ci::q).flatMap encII) M' U.M:=by simpa using ae
 obtain⟨A,bd,hA⟩:=ae.split;obtain⟨Q,ll,lc,rfl,a6⟩:=hA.src;have a6:(ci::q).length=ll:=by have e:=(Q0 (f:=encII) (n:=2) (λ _=>rfl) (ci::q)).symm.trans a6;omega
 subst a6;have P:U.lg ({ Up with M:=M' }:Qa Tk):=⟨H.imm,⟨A,bd⟩,H.tok⟩
 have a5:Q5 ({ Up with M:=M' }:Qa Tk) Q (ci::q).length 2 (ci::q) λ x vs=>vs=encII x:=by
  obtain⟨a2,l2,c2,e2,h2,h3⟩:=Acc.src (U:={ Up with M:=M' }) ae;obtain⟨rfl,-,-⟩:=Value.slice.inj e2;refine HV (enc:=encII) (n:=2) (λ _=>rfl) h3 (λ ad e=>?_) D1;subst e;rcases ae with⟨e1,_,_⟩|⟨b',c',bu,a9,e1,_⟩
  .cases e1
  .cases e1;rfl
 generalize bg:({ Up with M:=M' }:Qa Tk)=U1 at P a5 ⊢;have be:U1.M=A++U.M:=by rw[<- bg];exact bd
 clear bg bl H a3;have af:=he.imI P.imm P.tok;refine⟨_,⟨rfl,af.bk.rd⟩,?_⟩;refine⟨Fv.any,(RF (S:=Q7) (U:=U1) h b af.bv bq (ci::q) Q lc a5 bp bm).mono ?_⟩;rintro _ U2⟨⟨L,rfl,an⟩,b1⟩-
 conv=>whnf
 intro bx bj;refine⟨_,.refl _,rfl,Zt (vs:=[.slice L.ra L.rl L.rc,.slice L.ca L.cl L.cc]) bj rfl (by simp[Value.single]) λ U3 bh N=>?_⟩;have N:Zi U3 bx #[.slice L.ra L.rl L.rc,.slice L.ca L.cl L.cc]:=N;have ag:=b1.trans bh;have an:=an.lg bh.lg.frz2;have bf:=ag.own.trans be;have bi:=af.imI ag.imm ag.tok;have ai:=P.trans ag.lg;refine⟨_,⟨rfl,N.rd⟩,?_⟩;refine⟨.int .i64 (if Wq (b.stys (ci::q)).A then 8 else 0),λ U' ah _=>?_,?_⟩
 .refine⟨Te.any,(U_ L _ ((an.lg ah.lg.frz2).lg Qp) ay.low).mono ?_⟩;rintro _ bw⟨rfl,hU⟩-;exact⟨rfl,_,.refl _,hU▸.refl _⟩
 cases H:Wq (b.stys (ci::q)).A with
 |true=>
  have hg:b.good r w (ci::q)=false:=by unfold Bk.good;rw[H];rfl
  refine⟨rfl,?_⟩
  conv=>whnf
  intro U4 ac _
  repeat refine⟨rfl,?_⟩
  conv=>whnf
  exact .inl ⟨rfl,hg,ai.trans ac.lg⟩
 |false=>
 have br:=ay.ok H;have bn:b.good r w (ci::q)=((b.stys (ci::q)).fatR r==w):=by unfold Bk.good;rw[H];rfl
 refine⟨rfl,_,⟨rfl,N.rd⟩,?_⟩;refine⟨_,bi.rt.sees3 (o:=0) rfl,.int .i64 ((b.stys (ci::q)).fatR r),λ U' ah _=>?_,?_⟩
 .refine⟨Gi.any,(Kj L _ (an.lg ah.lg.frz2) br r (by grind[Bk.stys_rs])).mono ?_⟩;rintro _ bw⟨rfl,hU⟩-;exact⟨rfl,_,.refl _,hU▸.refl _⟩
 refine⟨_,bi.wt.sees3 (o:=0) rfl,?_⟩
 conv=>whnf
 intro U4 ac _;have bz:=ac.own.trans bf;have aj:=ai.trans ac.lg;have b4:Q5 U4 Q (ci::q).length 2 (ci::q) λ x vs=>vs=encII x:=a5.lg (ag.trans ac).lg λ _ _ h=>h
 repeat refine⟨rfl,?_⟩
 conv=>whnf
 apply Qe<;>intro hc
 .have hg:b.good r w (ci::q)=false:=by
   rw[bn];have:(b.stys (ci::q)).fatR r≠w:=by simpa using hc
   simpa using this
  repeat refine⟨rfl,?_⟩
  conv=>whnf
  simp_all
 have hg:b.good r w (ci::q)=true:=by
  rw[bn];have:(b.stys (ci::q)).fatR r=w:=by simpa using hc
  simpa using this
 obtain⟨s,lo,rfl,T⟩:=ao k q hq b8 hg;have cg:U4.tok=⟨0,.wrk g D,some (.lok ⟨lm,202,JE fb bb B F⟩ s .idle lo)⟩:=aj.tok.trans au
 have a7:Qb Q7 145 #[.pointer (some ⟨lm,0,none⟩)] (λ v U'=>v=.tuple #[]/\∃z M lo',JE fb bb B F (if s then z else false) (if s then false else z) M/\U'.M=M++U4.M/\(∀x o,U4.I x=some o->U'.I x=some o)/\U'.tok=⟨0,.wrk g D,some (.lok ⟨lm,202,JE fb bb B F⟩ s (.own z) lo')⟩) U4:=by
  refine Qb.post (R:=λ v U'=>v=.tuple #[]/\∃z M lo',JE fb bb B F (if s then z else false) (if s then false else z) M/\U'.M=U4.M++M/\(∀x o,U4.I x=some o->U'.I x=some o)/\U'.tok=⟨0,.wrk g D,some (.lok ⟨lm,202,JE fb bb B F⟩ s (.own z) lo')⟩) (ki cg λ z M lo' aq=>⟨rfl,z,M,lo',aq,rfl,λ _ _ h=>h,rfl⟩) λ v U'⟨hv,z,M,lo',aq,a1,hI,ht⟩=>?_;exact⟨{ U' with M:=M++U4.M },W7 (by grind[perm_append_comm]),hv,z,M,lo',aq,rfl,hI,ht⟩
 refine⟨BK,a7.mono ?_⟩;rintro _ Y⟨rfl,z,MS,lo',b0,E,aw,bt⟩-;obtain⟨ya,yl,yc,W,Z,av,rfl⟩:=b0;have E:Y.M=.obj fb (.cells [.bool (ZG (if(if s then z else false)then B else none) (if(if s then false else z)then F else none)).isSome].toArray 4 (0,0))::.obj bb (.cells [.slice ya yl yc].toArray 68 (0,0))::(W++(A++U.M)):=by rw[E,bz];simp
 have fin:∀(M₁ M₂:List Qx)(U6:Qa Tk),U6.tok=Y.tok->(∀x o,Y.I x=some o->U6.I x=some o)->U6.M=M₁++M₂->JE fb bb B F (if s then z else true) (if s then true else z) M₁ ->
   XK Q7 146 #[.pointer (some ⟨lm,0,none⟩)] (λ U'=>(Value.bool true=.bool false/\b.good r w (ci::q)=false/\U.lg U')\/(Value.bool true=.bool true/\(∃s lo,U'.tok=⟨0,.wrk g D,some (.lok ⟨lm,202,JE fb bb B F⟩ s .fin lo)⟩)/\∀x o,U.I x=some o->U'.I x=some o)) U6:=by
  intro M₁ M₂ U6 ht hI a1 hD;exact yJ (ht.trans bt) a1 hD (.inr ⟨rfl,⟨s,lo',rfl⟩,λ x o V=>hI x o (aw x o (aj.imm x o V))⟩)
 generalize G:ZG (if(if s then z else false)then B else none) (if(if s then false else z)then F else none)=o at Z av E
 have ak:ZG (if(if s then z else true)then B else none) (if(if s then true else z)then F else none)=some (nb (ci::q) o):=by
  cases s with
  |false=>
   have T:B=some (ci::q):=T;have G:ZG none (if z then F else none)=o:=G;show ZG B (if z then F else none)=_;rw[T];have G:(if z then F else none)=o:=G;rw[G];cases o <;> rfl
  |true=>
   have T:F=some (ci::q):=T;have G:ZG (if z then B else none) none=o:=G;show ZG (if z then B else none) F=_;rw[T]
   have G:(if z then B else none)=o:=by
    rw[<- G];cases(if z then B else none) <;> rfl
   rw[G];cases o with
   |none=>rfl
   |some y=>
    have cq:B=some y:=by
     cases z with
     |true=>exact G
     |false=>cases G
    show some (if Q_ y (ci::q)<0 then y else ci::q)=some (if Q_ (ci::q) y<0 then ci::q else y);grind
 have bs:(Value.slice Q (ci::q).length lc).single=true:=rfl
 have ck:∀U':Qa Tk,U'.M=Y.M->U'.sees ((Addr.mk fb 0 none)) (.bool o.isSome):=λ U' a1=>by
  have:=J0 (U:=U') (b:=fb) (e:=4) (vs:=[.bool o.isSome]) (by grind) 0 _ rfl;exact this
 repeat refine⟨rfl,?_⟩
 refine⟨_,ck Y rfl,?_⟩;cases o with
 |none=>
  refine⟨rfl,Y8 (b:=bb) (e:=68) (c:=[.slice ya yl yc].toArray) (L₁:=[.obj fb (.cells [.bool false].toArray 4 (0,0))]) (L₂:=A++(W++U.M)) (vs:=[.slice Q (ci::q).length lc]) (by
   rw[E];refine Perm.cons _ (Perm.cons _ ?_);grind[perm_append_comm_assoc]) rfl (by grind) λ U6 ba al aa=>?_⟩
  refine⟨rfl,Wh (b:=fb) (e:=4) (c:=[.bool false].toArray) (vs:=[.bool true]) (M₀:=.obj bb (.cells [.slice Q (ci::q).length lc].toArray 68 (0,0))::(A++(W++U.M))) [] aa rfl (by simp[Value.single]) λ U7 bc am ab=>?_⟩
  have hd:=fin (.obj fb (.cells [.bool true].toArray 4 (0,0))::.obj bb (.cells [.slice Q (ci::q).length lc].toArray 68 (0,0))::A) (W++U.M) U7 (am.trans al) (λ x o V=>by grind) (by rw[ab];simp) (by
   unfold JE;rw[ak];exact⟨Q,_,lc,A,hA,λ x V=>by cases V;rfl,rfl⟩)
  refine⟨rfl,Td,?_⟩;refine cast (congrArg (λ a=>XK Q7 146 a _ _) (SA _ (.t 6) (.pointer (some ⟨lm,0,none⟩)) rfl).symm) ?_;exact hd.mono λ U' hq=>by(conv=>whnf);exact hq
 |some y=>
  have av:=av y rfl;subst av;have Z:Jw 84 2 (.slice ya y.length yc) (y.flatMap encII) W:=Z
  have cj:Y.sees (Addr.mk bb 0 none) (.slice ya y.length yc):=by
   have:=J0 (U:=Y) (b:=bb) (e:=68) (vs:=[.slice ya y.length yc]) (by rw[E];simp) 0 _ rfl;exact this
  have b6:Q5 Y ya y.length 2 y λ x vs=>vs=encII x:=by
   have ax:=Z [];obtain⟨a2,l2,c2,e2,h2,h3⟩:=Acc.src (U:={ Y with M:=W++[] }) ax;obtain⟨rfl,-,-⟩:=Value.slice.inj e2
   refine(HV (enc:=encII) (n:=2) (λ _=>rfl) h3 (λ ad e=>?_) D1).mem (λ _ _ h=>h) (λ r hr=>by
    grind)
   subst e;rcases ax with⟨e1,_,_⟩|⟨b',c',bu,a9,e1,_⟩
   .cases e1
   .cases e1;rfl
  have b5:Q5 Y Q (ci::q).length 2 (ci::q) λ x vs=>vs=encII x:=b4.mem aw λ r hr=>by
   grind
  have ch:y.length<=1000:=by
   refine a0 y ?_;cases s with
   |false=>
    have G:(if z then F else none)=some y:=G;cases z with
    |true=>exact .inr G
    |false=>cases G
   |true=>
    have G:ZG (if z then B else none) none=some y:=G;cases z with
    |true=>
     have G:ZG B none=some y:=G;refine .inl ?_;rw[<- G];cases B <;> rfl
    |false=>cases G
  repeat refine⟨rfl,?_⟩
  refine⟨_,cj,FV.any,(zU (ci::q) y Q ya lc yc b5 b6 O1 ch).go λ _=>?_⟩
  repeat refine⟨rfl,?_⟩
  conv=>whnf
  apply Qe<;>intro hc
  .have hlt:Q_ (ci::q) y<0:=by simpa using hc
   refine⟨rfl,Y8 (b:=bb) (e:=68) (c:=[.slice ya y.length yc].toArray) (L₁:=[.obj fb (.cells [.bool true].toArray 4 (0,0))]) (L₂:=A++(W++U.M)) (vs:=[.slice Q (ci::q).length lc]) (by
    rw[E];refine Perm.cons _ (Perm.cons _ ?_);grind[perm_append_comm_assoc]) rfl (by grind) λ U6 ba al aa=>?_⟩
   refine⟨rfl,Wh (b:=fb) (e:=4) (c:=[.bool true].toArray) (vs:=[.bool true]) (M₀:=.obj bb (.cells [.slice Q (ci::q).length lc].toArray 68 (0,0))::(A++(W++U.M))) [] aa rfl (by simp[Value.single]) λ U7 bc am ab=>?_⟩
   have hd:=fin (.obj fb (.cells [.bool true].toArray 4 (0,0))::.obj bb (.cells [.slice Q (ci::q).length lc].toArray 68 (0,0))::A) (W++U.M) U7 (am.trans al) (λ x o V=>by grind) (by rw[ab];simp) (by
    unfold JE;rw[ak];show Pb fb bb (some (if Q_ (ci::q) y<0 then ci::q else y)) _;rw[if_pos hlt];exact⟨Q,_,lc,A,hA,λ x V=>by cases V;rfl,rfl⟩)
   refine⟨rfl,Td,?_⟩;refine cast (congrArg (λ a=>XK Q7 146 a _ _) (SA _ (.t 6) (.pointer (some ⟨lm,0,none⟩)) rfl).symm) ?_;exact hd.mono λ U' hq=>by(conv=>whnf);exact hq
  .have hlt:¬Q_ (ci::q) y<0:=by simpa using hc
   have hd:=fin (.obj fb (.cells [.bool true].toArray 4 (0,0))::.obj bb (.cells [.slice ya y.length yc].toArray 68 (0,0))::W) (A++U.M) Y rfl (λ _ _ h=>h) (by rw[E];simp) (by
    unfold JE;rw[ak];show Pb fb bb (some (if Q_ (ci::q) y<0 then ci::q else y)) _;rw[if_neg hlt];exact⟨ya,_,yc,W,Z,λ x V=>by cases V;rfl,rfl⟩)
   refine⟨rfl,Td,?_⟩;refine cast (congrArg (λ a=>XK Q7 146 a _ _) (SA _ (.t 6) (.pointer (some ⟨lm,0,none⟩)) rfl).symm) ?_;exact hd.mono λ U' hq=>by(conv=>whnf);exact hq
end Go.Proofs
namespace Go.TM
variable{T:Type}{P:Program}{S:Sys P T}{U:Qa T}
def Zf.code{g:FuncId}{N:Nat}{cc:C}{rl:List RV}(k:Zf P g N cc rl)(z:P.follows .mixedOrders=true){args:List Value}(B:args.length<=N){U:Qa T}{n:Zm T}{x:Nat->Zm T}{r:Zm T}
  (h:JV S g none cc n x r (fm args) [] U):∃fd:Func,P.funcs[g]?=some fd/\fd.body=some (fd.body.getD .skip)/\fd.ntmps=N/\Zw S g none (fd.body.getD .skip) (Gj N n x r) { tmps:=args.toArray++Array.replicate (fd.ntmps-args.toArray.size) undef,defers:=[] } U:=by
 obtain⟨fd,mu,dets,e,b,w,rfl,E,-⟩:=k.ok;refine⟨fd,e,b,rfl,?_⟩
 have f:FR fd.ntmps { tmps:=args.toArray++Array.replicate (fd.ntmps-args.toArray.size) undef,defers:=[] } (fm args) []:=by
  refine⟨rfl,S3,λ t=>?_⟩;simp only[fm,Array.getD_eq_getD_getElem?,getD_eq_getElem?_getD,Array.getElem?_append,size_toArray,getElem?_toArray];split
  .rfl
  .rename_i hlt;rw[getElem?_eq_none O1,Array.getElem?_replicate];split <;> rfl
 grind[G4]
def Q5.drop{a:Option Addr}{cap n:Nat}{α:Type}{l:List α}{R:α->List Value->Prop}(h:Q5 U a l.length n l R)(G:l.length<=cap){j:Nat}(H:j<=l.length):Q5 U (if cap=j then a else a.map (·.add (j*n))) (l.length-j) n (l.drop j) R:=by
 refine⟨S1,λ i x f=>?_⟩;rw[getElem?_drop]at f;have E:=(List.getElem?_eq_some_iff.1 f).1;obtain⟨w,vs,e,b,z,B,I⟩:=h.2 (j+i) x f;rw[if_neg O1];refine⟨w.add (j*n),vs,by rw[e];rfl,by obtain⟨F,K,L⟩:=w;cases b;rw[Qo],z,B,?_⟩;grind[gJ,Nat.add_mul]
end Go.TM
namespace Go.Proofs
open Go.TM
attribute [local irreducible] Qb Zl Wt
section
variable(g bcan bm bbk brt bwt lm fb bb:Nat)(i:Int)(T:Array Value)(todo:List Go.Item)
def Hj:List Value:=[.pointer (some ⟨g,0,none⟩),.pointer (some ⟨bcan,0,none⟩),.pointer (some ⟨bm,0,none⟩),.pointer (some ⟨bbk,0,none⟩),.pointer (some ⟨brt,0,none⟩),.pointer (some ⟨bwt,0,none⟩),.pointer (some ⟨lm,0,none⟩),.pointer (some ⟨fb,0,none⟩),.pointer (some ⟨bb,0,none⟩)]
def Py:List Value:=.int .i64 i::Hj g bcan bm bbk brt bwt lm fb bb
def Uw:Deferred:={ target:=.fn (.func 140) (Hj g bcan bm bbk brt bwt lm fb bb).toArray,args:=#[.int .i64 i] }
def P1:Frame:={ (default:Frame)with fn:=140,kind:=.deferred }
def G5:Deferred:={ target:=.fn (.func 141) #[],args:=#[]++#[.pointer (some ⟨g,0,none⟩)] }
def N5:Qm prog 209 false 1 (Gp prog (Uw g bcan bm bbk brt bwt lm fb bb i))=some []:=K1
def CU:Qi prog 209 false 1 (Gp prog (Uw g bcan bm bbk brt bwt lm fb bb i))=R P1 { tmps:=(Py g bcan bm bbk brt bwt lm fb bb i).toArray++Array.replicate (Tryz.f140.ntmps-(Py g bcan bm bbk brt bwt lm fb bb i).toArray.size) undef,defers:=[] } [.code (Tryz.f140.body.getD .skip)] [GS]:=K1
def xS:Qm prog 209 false 1 (Rf { fr P1 ⟨T,[G5 g]⟩ todo with mode:=.returning } [GS])=some []:=K1
def Nj:Qi prog 209 false 1 (Rf { fr P1 ⟨T,[G5 g]⟩ todo with mode:=.returning } [GS])=Sk g T todo:=K1
end
def yH(g:Nat)(D:TM.Spec)(T:Array Value)(todo:List Go.Item){U:Qa Tk}{mu:Option ZS}(f:U.tok=⟨0,.wrk g D,mu⟩)(e:mu=none\/∃x s lo,mu=some (.lok x s .fin lo))(h:D U.M){Stop:QJ Tk}:J Q7 Stop false (Rf { fr P1 ⟨T,[G5 g]⟩ todo with mode:=.returning } [GS]) U:=by
 refine J.calm0 (xS g T todo) ?_;rw[Nj];refine J.calm (b:=g) (by rw[f];rfl) (ov g T todo) Q4 ?_;show J _ Stop false (KF g T todo) U;exact .syn (QD.lay (Qn (SE.of_info (g:=KF g T todo) (Ey g T todo))) f e h Qg (W5 (Ey g T todo) rfl) (zy g T todo))
structure Sr(b:Bk)(r:Nat)(w:Int)(m i:Nat)(mt:Option ZS)(lm fb bb:Nat)(Lf Lt:Option (List (Int×Int))):Prop where
 first:∀ci,b.cans[i]?=some ci->∀k q,(TM.parts (b.cans.drop (i+1)) m)[k]?=some q->(∀q'∈(TM.parts (b.cans.drop (i+1)) m).take k,b.good r w (ci::q')=false)->b.good r w (ci::q)=true->∃s lo,mt=some (.lok ⟨lm,202,JE fb bb Lf Lt⟩ s .idle lo)/\(if s then Lt else Lf)=some (ci::q)
 none:∀ci,b.cans[i]?=some ci->(∀q∈TM.parts (b.cans.drop (i+1)) m,b.good r w (ci::q)=false)->mt=none
def Aj{U:Qa Tk}(h:BH)(b:Bk)(ak:b.Ok)(ai:b.cans.Nodup)(r:Nat)(hr:r<b.rs.length)(w:Int)(i:Nat){bcan bm bbk brt bwt lm fb bb g:Nat}(hi:i<b.cans.length)
  (he:∀(U':Qa Tk)bfst,(∀x o,U.I x=some o->U'.I x=some o)->U'.tok=U.tok->Zi U' bfst #[.int .i64 i]->HP U' h b r w i bcan bfst bbk brt bwt) (am:b.cans.length<=900)
  (P Q:Option (List (Int×Int))) (H:∀x,P=some x\/Q=some x->x.length<=1000) (ac:∀x y,P=some x->Q=some y->(if Q_ y x<0 then y else x)=(if Q_ x y<0 then x else y))
  (m:Nat) (hm:m<=5) (ae:Zi U bm #[.int .i64 (m+1:Nat)]) (mt:Option ZS) (D:TM.Spec) (F:U.tok=⟨0,.wrk g D,mt⟩) (hw:Sr b r w m i mt lm fb bb P Q) {K:List Deferred->Qa Tk->Prop}
  (hK:∀U':Qa Tk,(∃mu,U'.tok=⟨0,.wrk g D,mu⟩/\(mu=none\/∃x s lo,mu=some (.lok x s .fin lo)))->K [G5 g] U') :
  JV Q7 140 none EP (λ _ ds U=>K ds U) (λ _ _ _ _=>False) (λ _ _ _=>False) (fm (Py g bcan bm bbk brt bwt lm fb bb i)) [] U:=by
 obtain⟨ci,M⟩:∃ci,b.cans[i]?=some ci:=⟨_,getElem?_eq_getElem hi⟩
 conv=>whnf
 intro G U1 z e;have e:Zi U1 G #[.int .i64 i]:=e;have W:=he U1 G z.imm z.tok e;have T:=ae.le z;obtain⟨ca,cc,ad,af,V⟩:=W.can;have aa:Zu ((i:Int)+1):=I1
 have ab:Zu (((m+1:Nat):Int)-1):=I1
 have ah:((m+1:Nat):Int)-1=(m:Int):=O1
 have B:(b.cans.drop (i+1)).length=b.cans.length-(i+1):=S1
 have N:=Q5.drop (cap:=cc) af V (j:=i+1) O1;have al:=zh (U₀:=U1) h b ak ai r hr w i (bcan:=bcan) (bfst:=G) (bbk:=bbk) (brt:=brt) (bwt:=bwt) (lm:=lm) (fb:=fb) (bb:=bb) (g:=g) (D:=D) M W P Q H ac m hm mt (z.tok.trans F) (hw.first ci M);have Z:∀f:Fm,f 1=.pointer (some ⟨g,0,none⟩)->(#[]++Array.map (Zj f) #[Operand.tmp 1]:Array Value)=#[]++#[.pointer (some ⟨g,0,none⟩)]:=λ f hf=>by simp[Zj,hf]
 refine⟨rfl,_,ad.sees3 (o:=0) rfl,_,e.sees3 (o:=0) rfl,aa,i+1,b.cans.length,⟨O1,rfl,O1,V⟩,_,T.sees3 (o:=0) rfl,ab,?_⟩
 conv=>whnf
 intro U2 L _
 have Y:=px (S:=Q7) (U:=U2) (b.cans.drop (i+1)) _ (cc-(i+1)) (by rw[B];exact N.lg L.lg.frz2 λ _ _ h=>h) O1 m O1 143 #[] _ EZ.any (I:=λ k U'=>U'.tok=⟨0,.wrk g D,mt⟩/\∀q∈(TM.parts (b.cans.drop (i+1)) m).take k,b.good r w (ci::q)=false) (E:=λ U'=>∃s lo,U'.tok=⟨0,.wrk g D,some (.lok ⟨lm,202,JE fb bb P Q⟩ s .fin lo)⟩)
  (λ k U1 U2 ag⟨h1,h2⟩=>⟨ag.tok.trans h1,h2⟩) (λ k p a cap U X Mc hp h0=>al k p a cap U X Mc hp (L.lg.frz2.trans h0)) ⟨L.tok.trans (z.tok.trans F),S1⟩
 rw[B]at Y;rw[ah];refine⟨UP.any,Y.mono ?_⟩;rintro v U3 (⟨rfl,-,ht,aj⟩|⟨rfl,⟨s,lo,ht⟩,-⟩) -
 .have hmt:=hw.none ci M λ q hq=>aj q S2
  repeat refine⟨rfl,?_⟩
  conv=>whnf
  exact cast (congrArg (λ a=>K [{ target:=.fn (.func 141) #[],args:=a }] U3) (Z _ rfl).symm) (hK U3 ⟨mt,ht,.inl hmt⟩)
 .repeat refine⟨rfl,?_⟩
  conv=>whnf
  exact cast (congrArg (λ a=>K [{ target:=.fn (.func 141) #[],args:=a }] U3) (Z _ rfl).symm) (hK U3 ⟨_,ht,.inr ⟨_,_,_,rfl⟩⟩)
def wi{U:Qa Tk}(h:BH)(b:Bk)(W:b.Ok)(V:b.cans.Nodup)(r:Nat)(hr:r<b.rs.length)(w:Int)(i:Nat){bcan bm bbk brt bwt lm fb bb g:Nat}(hi:i<b.cans.length)
  (he:∀(U':Qa Tk)bfst,(∀x o,U.I x=some o->U'.I x=some o)->U'.tok=U.tok->Zi U' bfst #[.int .i64 i]->HP U' h b r w i bcan bfst bbk brt bwt) (L:b.cans.length<=900)
  (F G:Option (List (Int×Int))) (e:∀x,F=some x\/G=some x->x.length<=1000) (B:∀x y,F=some x->G=some y->(if Q_ y x<0 then y else x)=(if Q_ x y<0 then x else y))
  (m:Nat) (hm:m<=5) (H:Zi U bm #[.int .i64 (m+1:Nat)]) (X:Option ZS) (E:U.tok=⟨0,.wrk g λ _=>True,X⟩) (hw:Sr b r w m i X lm fb bb F G) (Stop:QJ Tk) :
  J Q7 Stop false (Gp prog (Uw g bcan bm bbk brt bwt lm fb bb i)) U:=by
 refine J.calm0 (N5 ..) ?_;rw[CU]
 obtain⟨fd,P,aa,hN,f⟩:=kK.code (S:=Q7) Qf (args:=Py g bcan bm bbk brt bwt lm fb bb i) (by simp[Py,Hj])
  (Aj (K:=λ ds U'=>ds=[G5 g]/\∃mu,U'.tok=⟨0,.wrk g λ _=>True,mu⟩/\(mu=none\/∃x s lo,mu=some (.lok x s .fin lo))) h b W V r hr w i hi he L F G e B m hm H X _ E hw λ U' h=>⟨rfl,h⟩)
 have:fd=Tryz.f140:=Option.some.inj (P.symm.trans Tryz.func140);subst this;refine J.body (fn:=140) (Q:=_) ⟨rfl,rfl,by simp[P1],S1⟩ f λ e' a' U' z=>?_;obtain⟨f',Z,N,z⟩:=z;cases e' with
 |normal=>
  obtain⟨rfl,mu,h2,h3⟩:=z;refine⟨.inl rfl,λ todo=>?_⟩;obtain⟨T,Y⟩:=a';have M:Y=[G5 g]:=N.ds;subst M;exact yH g _ T todo h2 h3 trivial
 |exit i=>exact z.elim
 |ret=>exact z.elim
end Go.Proofs
namespace Go.TM
variable{T:Type}{P:Program}{S:Sys P T}{U U':Qa T}
def Z5.mem{a:Option Addr}{len:Nat}{l:List Int}(h:Z5 U a len l)(b:∀x o,U.I x=some o->U'.I x=some o)(f:∀r∈U.M,r∈U'.M):Z5 U' a len l:=
 ⟨h.1,λ i x w=>let ⟨ad,e,s,hs⟩:=h.2 i x w;⟨ad,e,s,hs.mem b f⟩⟩
def Q5.mem2{a:Option Addr}{len n:Nat}{α:Type}{l:List α}{R R':α->List Value->Prop}(h:Q5 U a len n l R)(b:∀x o,U.I x=some o->U'.I x=some o)(f:∀r∈U.M,r∈U'.M)(w:∀x vs,R x vs->R' x vs):Q5 U' a len n l R':=
 ⟨h.1,λ i x z=>let ⟨ad,vs,e,s,r,hl,hr⟩:=h.2 i x z;⟨ad,vs,e,s,w _ _ r,hl,hr.mem b f⟩⟩
def J3.mem{a:Option Addr}{len:Nat}{B:List (List Int)}(h:J3 U a len B)(w:∀x o,U.I x=some o->U'.I x=some o)(z:∀r∈U.M,r∈U'.M):J3 U' a len B:=
 Q5.mem2 h w z λ _ _⟨a',f,b,e,E,F⟩=>⟨a',f,b,e,E.mem w z,F⟩
def Zq.mem{h:BH}{b:Bk}(k:Zq U h b)(f:∀x o,U.I x=some o->U'.I x=some o)(w:∀r∈U.M,r∈U'.M):Zq U' h b:=
 ⟨k.rs.mem2 f w λ _ _ h=>h,k.cs.mem2 f w λ _ _⟨ga,gl,gc,z,al,ac,e,B,E,F,G⟩=>⟨ga,gl,gc,z,al,ac,e,B.mem f w,E,F.mem f w,G⟩,k.rl,k.cl,k.rn,k.cn⟩
end Go.TM
namespace Go.Proofs
open Go.TM
attribute [local irreducible] Qb Zl Wt
def Hc{T:Type}(U:Qa T)(v:Value)(l:List (Int×Int)):Prop:=∃a c,v=.slice a l.length c/\Q5 U a l.length 2 l (λ x vs=>vs=encII x)
structure HL(b:Bk)(r:Nat)(w:Int)(m:Nat)(sd:Nat->Option Bool)(Lf Lt:Option (List (Int×Int))):Prop where
 n:b.cans.Nodup
 pos:0<b.cans.length
 six:b.cans.length<=6
 m5:m<=5
 len:∀x,Lf=some x\/Lt=some x->x.length<=1000
 sym:∀x y,Lf=some x->Lt=some y->(if Q_ y x<0 then y else x)=(if Q_ x y<0 then x else y)
 no:∀i ci,b.cans[i]?=some ci->(TM.parts (b.cans.drop (i+1)) m).find? (λ q=>b.good r w (ci::q))=none->sd i=none
 yes:∀i ci q,b.cans[i]?=some ci->(TM.parts (b.cans.drop (i+1)) m).find? (λ q=>b.good r w (ci::q))=some q->∃s,sd i=some s/\(if s then Lt else Lf)=some (ci::q)
 one:∀i j s,sd i=some s->sd j=some s->i=j
 out:∀s,((range b.cans.length).any λ i=>sd i==some s)=false->(if s then Lt else Lf)=none
def Z_(b:Nat->Option Bool)(i:Nat)(s:Bool):Bool:=(range i).any λ j=>b j==some s
def gd{b:Nat->Option Bool}{i:Nat}(h:b i=none):Z_ b (i+1)=Z_ b i:=by
 funext s;unfold Z_;rw[range_succ,any_append];simp[h]
def jm{b:Nat->Option Bool}{i:Nat}{s:Bool}(h:b i=some s)(f:∀i j s,b i=some s->b j=some s->i=j):Z_ b i s=false/\Z_ b (i+1)=ZK (Z_ b i) s true:=by
 have w:Z_ b i s=false:=by
  unfold Z_;rw[any_eq_false];intro j z e;rw[mem_range]at z;have:=f j i s (by simpa using e) h;omega
 refine⟨w,?_⟩;funext s';unfold Z_ ZK;grind
abbrev H5(lm fb bb:Nat)(b e:Option (List (Int×Int))):QY:=⟨lm,202,JE fb bb b e⟩
abbrev XO:TM.Spec:=λ _=>True
def jF{α:Type}{p:α->Bool}{l:List α}(h:∀q∈l,p q=false):l.find? p=none:=by
 simp_all
def NI{α:Type}{p:α->Bool}{l:List α}{k:Nat}{q:α}(b:l[k]?=some q)(h:∀q'∈l.take k,p q'=false)(f:p q=true):l.find? p=some q:=by
 rw[find?_eq_some_iff_getElem];obtain⟨b,e⟩:=List.getElem?_eq_some_iff.1 b;refine⟨f,k,b,e,λ j w=>?_⟩;have:=h l[j] (mem_take_iff_getElem.2 ⟨j,O1,rfl⟩);simp[this]
set_option maxHeartbeats 2000000 in
def E1{U:Qa Tk}(ai:U.tok=⟨0,.out,none⟩)(h:BH)(b:Bk)(hb:Zq U.frz h b)(a9:b.Ok)(r:Nat)(hr:r<b.rs.length)(w:Int)(m:Nat){Q:Nat->Option Bool}{z B:Option (List (Int×Int))}(W:HL b r w m Q z B) :
  Qb Q7 95 #[h.v,.int .i64 r,.int .i64 (m+1:Nat),.int .i64 w] (λ v U'=>(∃v1,v=.tuple #[v1,.bool (ZG z B).isSome]/\Hc U'.frz v1 ((ZG z B).getD []))/\U.le U') U:=by
 have bv:=a9.nc
 have be:Qb Q7 95 #[h.v,.int .i64 r,.int .i64 (m+1:Nat),.int .i64 w] (λ v U'=>∃a l c A Z,v=.tuple #[.slice a l c,.bool (ZG z B).isSome]/\Jw 84 2 (.slice a l c) (((ZG z B).getD []).flatMap encII) A/\U'.M.Perm (A++(Z++U.M))/\(∀x o,U.I x=some o->U'.I x=some o)/\U'.tok=U.tok) U:=by
  refine Qb.of (args:=[_,_,_,_]) Oq Qf S1 ?_
  conv=>whnf
  intro b4 U1 bl G;have G:Zi U1 b4 #[.slice h.ra h.rl h.rc,.slice h.ca h.cl h.cc]:=G
  conv=>whnf
  intro b5 U2 ay K;have K:Zi U2 b5 #[.int .i64 r]:=K
  conv=>whnf
  intro b6 U3 ak L;have L:Zi U3 b6 #[.int .i64 (m+1:Nat)]:=L
  conv=>whnf
  intro b7 U4 ac aa;have aa:Zi U4 b7 #[.int .i64 w]:=aa;have ah:=((bl.trans ay).trans ak).trans ac;have G:=G.le ((ay.trans ak).trans ac);have K:=K.le (ak.trans ac);have L:=L.le ac;refine⟨_,⟨rfl,G.rd⟩,?_⟩;refine⟨L5.any,(kQ h b (hb.lg ah.lg.frz2) bv).mono ?_⟩;rintro _ U5⟨⟨ca,cc,rfl,am,bq,-⟩,bn⟩-
  conv=>whnf
  intro H ag;refine⟨_,.refl _,rfl,Zt (vs:=[.slice ca b.cans.length cc]) ag rfl (by simp[Value.single]) λ V az N=>?_⟩;have N:Zi V H #[.slice ca b.cans.length cc]:=N;have E:=bn.trans az;have P:=ah.trans E;have G:=G.le E;have K:=K.le E;have L:=L.le E;have aa:=aa.le E;have bp:Zq V.frz h b:=hb.lg P.lg.frz2;have am:Q5 V.frz ca b.cans.length 2 b.cans (λ x vs=>vs=encII x):=am.lg az.lg.frz2 λ _ _ h=>h
  conv=>whnf
  intro lm a5;refine⟨_,.refl _,?_⟩
  conv=>whnf
  intro F a6;refine⟨_,.refl _,?_⟩
  conv=>whnf
  intro bb a3;refine⟨_,.refl _,?_⟩
  conv=>whnf
  intro fb a4;refine⟨_,.refl _,rfl,HR (vs:=[.bool false]) rfl (by simp[Value.single]) ?_⟩
  have ax:((((V.put lm (.cells #[.int .i32 0,.int .u32 0] 202)).put F (.cells #[.int .u64 0,.int .u32 0] 209)).put bb (.cells #[.slice none 0 0] 68)).put fb (.cells [.bool false].toArray 4)).M=[.obj fb (.cells [.bool false].toArray 4 (0,0)),.obj bb (.cells [.slice none 0 0].toArray 68 (0,0))]++.obj F (.cells #[Q1 0 0,Qq 0] 209 (0,0))::(.obj lm (.cells #[Zc 0,Qq 0] 202 (0,0))::U.M):=by
   show _::_::_::_::V.M=_;rw[P.own];rfl
  have aj:∀x o,V.I x=some o->((((V.put lm (.cells #[.int .i32 0,.int .u32 0] 202)).put F (.cells #[.int .u64 0,.int .u32 0] 209)).put bb (.cells #[.slice none 0 0] 68)).put fb (.cells [.bool false].toArray 4)).I x=some o:=λ _ _ h=>h;have bc:((((V.put lm (.cells #[.int .i32 0,.int .u32 0] 202)).put F (.cells #[.int .u64 0,.int .u32 0] 209)).put bb (.cells #[.slice none 0 0] 68)).put fb (.cells [.bool false].toArray 4)).tok=⟨0,.out,none⟩:=P.tok.trans ai;generalize((((V.put lm (.cells #[.int .i32 0,.int .u32 0] 202)).put F (.cells #[.int .u64 0,.int .u32 0] 209)).put bb (.cells #[.slice none 0 0] 68)).put fb (.cells [.bool false].toArray 4))=U7 at ax aj bc ⊢;clear a5 a6 a3 a4 ag;refine⟨_,(N.imI aj).sees3 (o:=0) rfl,Nat,λ i=>[(12,.pointer (some ⟨F,0,none⟩)),(13,.pointer (some ⟨bb,0,none⟩)),(14,.pointer (some ⟨fb,0,none⟩)),(15,.func (.func 140) #[] (Hj F H b6 b4 b5 b7 lm fb bb).toArray),(21,.int .i64 b.cans.length),(22,.int .i64 i)],
   λ i U'=>(∀x o,U7.I x=some o->U'.I x=some o)/\i<=b.cans.length/\((i=0/\U'.tok=⟨0,.out,none⟩/\U'.M=[.obj fb (.cells [.bool false].toArray 4 (0,0)),.obj bb (.cells [.slice none 0 0].toArray 68 (0,0))]++.obj F (.cells #[Q1 0 0,Qq 0] 209 (0,0))::(.obj lm (.cells #[Zc 0,Qq 0] 202 (0,0))::U.M)) \/
    (0<i/\U'.tok=⟨0,.par F (replicate i XO) false .run,some (.par (H5 lm fb bb z B) (Z_ Q i))⟩/\U'.M=U.M)),λ i=>b.cans.length-i,0,T1,⟨λ _ _ h=>h,O1,.inl ⟨rfl,bc,ax⟩⟩,?_⟩
  rintro i f U8⟨bj,hi,ae⟩;have br:Zu ((i:Int)+1):=by have:=W.six;unfold Zu;omega
  have av:∀x o,V.I x=some o->U8.I x=some o:=λ x o hx=>bj x o (aj x o hx)
  repeat refine⟨rfl,?_⟩
  conv=>whnf
  apply Qe<;>intro hc
  .have hlt:i<b.cans.length:=by simpa using hc
   obtain⟨ci,ad⟩:∃ci,b.cans[i]?=some ci:=⟨_,getElem?_eq_getElem hlt⟩;have h6:=W.six
   have a0:Qb Q7 149 #[.pointer (some ⟨F,0,none⟩),.int .i64 1] (λ v U'=>U'.I=U8.I/\U'.tok=⟨0,.par F (replicate i XO) true .run,some (.par (H5 lm fb bb z B) (Z_ Q i))⟩/\U'.M=U.M) U8:=by
    rcases ae with⟨rfl,T,X⟩|⟨b1,T,X⟩
    .refine Qb.make (M₁:=[.obj fb (.cells [.bool false].toArray 4 (0,0)),.obj bb (.cells [.slice none 0 0].toArray 68 (0,0))]) (M₂:=.obj lm (.cells #[Zc 0,Qq 0] 202 (0,0))::U.M) T X ?_;refine Qb.shift (U':=⟨U8.I,.obj lm (.cells #[Zc 0,Qq 0] 202 (0,0))::([.obj fb (.cells [.bool false].toArray 4 (0,0)),.obj bb (.cells [.slice none 0 0].toArray 68 (0,0))]++U.M),⟨0,.par F [] false .run,none⟩⟩) (W7 perm_middle) ?_;refine Qb.makeM (x:=H5 lm fb bb z B) (M₁:=[.obj fb (.cells [.bool false].toArray 4 (0,0)),.obj bb (.cells [.slice none 0 0].toArray 68 (0,0))]) (M₂:=U.M) rfl rfl ⟨none,0,0,[],.nil,(λ x hx=>by cases hx),rfl⟩ ?_;exact DU (ds:=[]) S1 rfl ⟨rfl,rfl,rfl⟩
    .exact DU (ds:=replicate i XO) S3 T ⟨rfl,by show(⟨0,_,U8.tok.mu⟩:Tk)=_;rw[T],X⟩
   refine⟨Cb,a0.mono ?_⟩;rintro v U9⟨aw,ap,Y⟩-;have af:∀x o,V.I x=some o->U9.I x=some o:=λ x o hx=>S2
   conv=>whnf
   intro a ha;rw[Cu];refine M7 ?_;rw[qZ];refine NW λ⟨wd,bx⟩=>?_;have bf:a.eval (.t 15)=.func (.func 140) #[] (Hj F H b6 b4 b5 b7 lm fb bb).toArray:=ha.get 15;refine H0 vg (Wp Bf) (.inl rfl) ?_;unfold Gc;simp only[execOp,Au,Qd,Qk,KS,bf];rw[Bx];have al:=ha.put (some 26) (.func (.func 140) #[] (Hj F H b6 b4 b5 b7 lm fb bb).toArray) S2;generalize a.put (some 26) (.func (.func 140) #[] (Hj F H b6 b4 b5 b7 lm fb bb).toArray)=a1 at al ⊢;have bg:a1.eval (.t 16)=.int .i64 i:=al.get 16;refine H0 p_ (Wp vz) (.inl rfl) ?_;unfold Gc;simp only[execOp,Ny,Qd,Qk,KS,bg];rw[zo];have S:=al.put (some 27) (.int .i64 i) S2;generalize a1.put (some 27) (.int .i64 i)=a2 at S ⊢;have bh:a2.eval (.t 26)=.func (.func 140) #[] (Hj F H b6 b4 b5 b7 lm fb bb).toArray:=S.get 26
   have bi:(#[]++#[Operand.tmp 27].map a2.eval:Array Value)=#[.int .i64 i]:=by
    have:a2.eval (.t 27)=.int .i64 i:=S.get 27;simp[this]
   obtain⟨au,mc,bu,a8,bs,bt⟩:∃au mc,Ye (some (.par (H5 lm fb bb z B) (Z_ Q i))) au mc/\au=some (.par (H5 lm fb bb z B) (Z_ Q (i+1)))/\(∀s,Q i=some s->mc=some (.lok (H5 lm fb bb z B) s .idle 0))/\(Q i=none->mc=none):=by
    cases hs:Q i with
    |none=>exact⟨_,none,.inl ⟨rfl,rfl⟩,by rw[gd hs],λ s h=>by(cases h),λ _=>rfl⟩
    |some s=>
     obtain⟨u1,u2⟩:=jm hs W.one;exact⟨_,some (.lok (H5 lm fb bb z B) s .idle 0),.inr ⟨_,_,s,rfl,u1,rfl,rfl⟩,by rw[u2],λ s' h=>by cases h;rfl,λ h=>by cases h⟩
   subst a8
   have bz:Sr b r w m i mc lm fb bb z B:=by
    refine⟨λ ci ad k q hk ao hg=>?_,λ ci ad ao=>bt (W.no i ci ad (jF ao))⟩;obtain⟨s,hs,hL⟩:=W.yes i ci q ad (NI hk ao hg);exact⟨s,0,bs s hs,hL⟩
   refine gZ (D:=XO) (ds:=replicate i XO) (Up:=⟨U9.I,U9.M,⟨0,.par F (replicate (i+1) XO) false .run,some (.par (H5 lm fb bb z B) (Z_ Q (i+1)))⟩⟩) (Uc:=⟨U9.I,[],⟨0,.wrk F XO,mc⟩⟩) qu (Wp MW) RO bh ap (LC bx (M₁:=[]) (M₂:=U9.M) (Perm.refl _)) rfl rfl bu (λ Stop=>?_) ?_
   .rw[bi];have bd:=wi (U:=⟨U9.I,[],⟨0,.wrk F XO,mc⟩⟩) h b a9 W.n r hr w i (bcan:=H) (bm:=b6) (bbk:=b4) (brt:=b5) (bwt:=b7) (lm:=lm) (fb:=fb) (bb:=bb) (g:=F) hlt (λ U' bfst hI ht bo=>?_) O1 z B W.len W.sym m W.m5 (L.imI af) mc rfl bz Stop
    .exact bd
    .have hI6':∀x o,V.I x=some o->U'.I x=some o:=λ x o hx=>hI x o (af x o hx);exact⟨⟨ca,cc,N.imI hI6',am.mem hI6' (λ r hr=>by cases hr),bq⟩,bo,G.imI hI6',bp.mem hI6' (λ r hr=>by cases hr),K.imI hI6',aa.imI hI6'⟩
   .refine FP ?_;rw[vx];refine⟨by rw[Act.put,S.size,ha.size],_,S.get,?_⟩;refine⟨br,by simpa[Act.put]using S.ds,i+1,T1,⟨λ x o hx=>S2,O1,.inr ⟨O1,rfl,Y⟩⟩,by grind⟩
  .have hge:i=b.cans.length:=by simp at hc;omega
   subst hge
   obtain⟨-,T,X⟩:0<b.cans.length/\U8.tok=⟨0,.par F (replicate b.cans.length XO) false .run,some (.par (H5 lm fb bb z B) (Z_ Q b.cans.length))⟩/\U8.M=U.M:=by
    rcases ae with⟨h0,_⟩|ae
    .have:=W.pos;omega
    .exact ae
   have hu:∀s,(if Z_ Q b.cans.length s then(if s then B else z)else none)=(if s then B else z):=λ s=>by
    cases bw:Z_ Q b.cans.length s with
    |true=>rfl
    |false=>rw[W.out s bw];rfl
   have aq:Qb Q7 150 #[.pointer (some ⟨F,0,none⟩)] (λ v U'=>v=.tuple #[]/\U'.I=U8.I/\U'.tok=⟨0,.out,none⟩/\∃M',Pb fb bb (ZG z B) M'/\U'.M=M'++U.M) U8:=by
    refine Qb.post (R:=λ v U'=>v=.tuple #[]/\U'.I=U8.I/\U'.tok=⟨0,.out,none⟩/\∃Ms M',Pb fb bb (ZG z B) M'/\U'.M=(U.M++Ms)++M') (CE (ds:=replicate b.cans.length XO) (by simp;exact W.six) T λ Ms M' b3 ab=>⟨rfl,rfl,rfl,Ms.flatten,M',?_,by rw[X]⟩) λ v U'⟨hv,hI,ht,Ms,M',ab,bk⟩=>?_
    .have h1:=hu false;have h2:=hu true;simp only[Bool.false_eq_true,if_false,if_true]at h1 h2;have:JE fb bb z B (Z_ Q b.cans.length false) (Z_ Q b.cans.length true) M':=ab;unfold JE at this
     rwa [h1,h2]at this
    .refine⟨{ U' with M:=M'++U.M },Dn ⟨Ms,?_⟩,hv,hI,ht,M',ab,rfl⟩;rw[bk,append_assoc,append_assoc];refine(perm_append_comm (l₁:=U.M) (l₂:=Ms++M')).trans ?_;rw[append_assoc];refine(perm_append_comm (l₁:=Ms) (l₂:=M'++U.M)).trans ?_;rw[append_assoc]
   refine⟨jd,aq.mono ?_⟩;rintro _ U9⟨rfl,aw,ap,M',⟨a,l,c,A,hA,-,rfl⟩,Y⟩-;refine⟨_,J0 (b:=bb) (e:=68) (vs:=[.slice a l c]) (by rw[Y];simp) 0 _ rfl,?_⟩;refine⟨_,J0 (b:=fb) (e:=4) (vs:=[.bool (ZG z B).isSome]) (by rw[Y];simp) 0 _ rfl,?_⟩
   conv=>whnf
   intro Ua an _;refine⟨a,l,c,A,[.obj fb (.cells [.bool (ZG z B).isSome].toArray 4 (0,0)),.obj bb (.cells [.slice a l c].toArray 68 (0,0))],rfl,hA,?_,λ x o hx=>an.imm x o (by rw[aw];exact av x o (P.imm x o hx)),by rw[an.tok,ap,ai]⟩;rw[an.own,Y];grind[perm_append_comm_assoc,ZG,Perm.refl]
 refine be.okv λ v U' hw⟨a,l,c,A,Z,hv,hA,hM,hI,ht⟩=>?_;obtain⟨U1,k1,k2,k3,a',b2,b0,e,hl,ba,ab⟩:=hA.freeze (Ko hw) hM;cases e;have a7:((ZG z B).getD []).length=l:=by have e:=(Q0 (f:=encII) (n:=2) (λ _=>rfl) ((ZG z B).getD [])).symm.trans hl;omega
 subst a7;exact⟨{ U1 with M:=U.M },k1.trans (Z1 S2),⟨_,hv,a,c,rfl,HV (enc:=encII) (n:=2) (λ _=>rfl) ba ab D1⟩,⟨λ x o hx=>k3.imm x o (hI x o hx),rfl,k3.tok.trans ht⟩⟩
end Go.Proofs
namespace Go.TM
def Xd{α:Type}(F:Nat->Option α):Nat->Nat->Option α
 |_,0=>none
 |m,n+1=>match F m with
  |some x=>some x
  |none=>Xd F (m+1) n
def EB{α:Type}(F:Nat->Option α)(m n:Nat):Xd F m (n+1)=match F m with
  |some x=>some x
  |none=>Xd F (m+1) n:=rfl
def Xj(b:Bool):Int:=if b then 1 else 2
def Bk.staF(b:Bk)(r:Int)(e:Bool)(F:Nat->Option (List (Int×Int))):Option (List (Int×Int)):=
 if b.askF r=0 then(if b.fatR r.toNat=Xj e then some []else if b.fatR r.toNat=Xj (!e)then none else Xd F 0 (b.cs.length-1))else none
end Go.TM
namespace Go.Proofs
open Go.TM
attribute [local irreducible] Qb Zl Wt
def Hc.nil{T:Type}{U:Qa T}:Hc U (.slice none 0 0) []:=⟨none,0,rfl,rfl,λ i x b=>by simp at b⟩
def Hc.lg{T:Type}{U U':Qa T}{v:Value}{l:List (Int×Int)}(h:Hc U v l)(k:U.lg U'):Hc U' v l:=let ⟨a,c,e,h⟩:=h;⟨a,c,e,h.lg k λ _ _ h=>h⟩
set_option maxHeartbeats 1000000 in
def Mi{U:Qa Tk}(aa:U.tok=⟨0,.out,none⟩)(h:BH)(b:Bk)(hb:Zq U.frz h b)(hk:WA U)(r:Int)(w:Bool)(F:Nat->Option (List (Int×Int)))
  (hC:b.askF r=0->b.fatR r.toNat≠Xj w->b.fatR r.toNat≠Xj (!w)->∀m,m+1<b.cs.length->(∀N,N<m->F N=none)->∃sd Lf Lt,HL b r.toNat (Xj w) m sd Lf Lt/\ZG Lf Lt=F m) :
  Qb Q7 52 #[h.v,.int .i64 r,.bool w] (λ v U'=>(∃v1,v=.tuple #[v1,.bool (b.staF r w F).isSome,.int .i64 (b.askF r)]/\Hc U'.frz v1 ((b.staF r w F).getD []))/\U.le U') U:=by
 refine Qb.grown (R:=λ v U'=>∃v1,v=.tuple #[v1,.bool (b.staF r w F).isSome,.int .i64 (b.askF r)]/\Hc U' v1 ((b.staF r w F).getD [])) (λ v U1 U2 hl⟨v1,e,h1⟩=>⟨v1,e,h1.lg hl⟩) (Qb.of (args:=[_,_,_]) TQ Qf S1 ?_);have aj:=hb.cs.1
 repeat refine⟨rfl,?_⟩
 conv=>whnf
 intro B U1 Z hB;have hB:Zi U1 B #[.slice h.ra h.rl h.rc,.slice h.ca h.cl h.cc]:=hB;refine⟨_,⟨rfl,hB.rd⟩,?_⟩;refine⟨PL.any,(Kb h b (hb.lg Z.lg.frz2) (hk.lg Z.lg) r).go λ _=>?_⟩
 conv=>whnf
 intro b9 ag;refine⟨_,.refl _,?_⟩;by_cases hF:b.askF r=0
 .obtain⟨hok,hr0,M⟩:=Bk.askF_ok hF;obtain⟨q,rfl⟩:=Int.eq_ofNat_of_zero_le hr0;have hq:q<b.rs.length:=by unfold Bk.nr at M;omega
  have ak:=hok.nc;have ac:b.staF (q:Int) w F=(if b.fatR q=Xj w then some []else if b.fatR q=Xj (!w)then none else Xd F 0 (b.cs.length-1)):=by unfold Bk.staF;rw[if_pos hF,Int.toNat_natCast]
  have hC:=hC hF;rw[Int.toNat_natCast]at hC;rw[if_pos hF,hF,ac];refine⟨rfl,Zt (vs:=[.slice h.ra h.rl h.rc,.slice h.ca h.cl h.cc]) ag rfl (by simp[Value.single]) λ U2 af P=>?_⟩;have P:Zi U2 b9 #[.slice h.ra h.rl h.rc,.slice h.ca h.cl h.cc]:=P;have E:=Z.trans af;have hB:=hB.le af;have V:=Kj (S:=Q7) (U:=U2) h b (hb.lg E.lg.frz2) hok q hq;cases w with
  |true=>
   have ad:Xj true=1:=rfl;have ae:Xj (!true)=2:=rfl;rw[ad,ae]at hC ⊢
   repeat refine⟨rfl,?_⟩
   refine⟨_,⟨rfl,P.rd⟩,?_⟩;refine⟨Gi.any,V.go λ _=>?_⟩
   repeat refine⟨rfl,?_⟩
   conv=>whnf
   apply Qe<;>intro I
   .have X:b.fatR q=1:=by simpa using I
    rw[if_pos X]
    repeat refine⟨rfl,?_⟩
    conv=>whnf
    exact⟨⟨_,rfl,.nil⟩,E.lg⟩
   have X:b.fatR q≠1:=by simpa using I
   rw[if_neg X]
   repeat refine⟨rfl,?_⟩
   conv=>whnf
   apply Qe<;>intro I
   .have Y:b.fatR q=2:=by simpa using I
    rw[if_pos Y]
    repeat refine⟨rfl,?_⟩
    conv=>whnf
    exact⟨⟨_,rfl,.nil⟩,E.lg⟩
   have Y:b.fatR q≠2:=by simpa using I
   rw[if_neg Y]
   refine⟨Nat,λ m=>[(1,.int .i64 q),(3,.pointer (some ⟨B,0,none⟩)),(9,.pointer (some ⟨b9,0,none⟩)),(10,.int .i64 1),(12,.int .i64 (m+1:Nat))],
    λ m U'=>U2.le U'/\(m=0\/m+1<=b.cs.length)/\(∀N,N<m->F N=none)/\Xd F 0 (b.cs.length-1)=Xd F m (b.cs.length-1-m),λ m=>b.cs.length-m,0,T1,⟨.refl _,.inl rfl,S1,rfl⟩,?_⟩
   rintro m f U3⟨K,hm,W,z⟩;have ab:Zu (((m+1:Nat):Int)+1):=I1
   have G:=E.trans K;refine⟨_,(hB.le K).sees3 (o:=1) rfl,?_⟩
   repeat refine⟨rfl,?_⟩
   conv=>whnf
   apply Qe<;>intro I
   .have hlt:m+1<b.cs.length:=by simp at I;omega
    obtain⟨sd,Lf,Lt,hD,T⟩:=hC X Y m hlt W;rw[show b.cs.length-1-m=(b.cs.length-1-(m+1))+1 by omega,EB]at z;refine⟨_,⟨rfl,(P.le K).rd⟩,?_⟩;refine⟨Oq.any,(E1 (U:=U3) (G.tok.trans aa) h b (hb.lg G.lg.frz2) hok q hq 1 m hD).mono ?_⟩;rintro _ U4⟨⟨v1,rfl,H⟩,Q⟩-;rw[T]at H ⊢;cases L:F m with
    |some x=>
     rw[L]at H z;obtain⟨a1,c1,rfl,M⟩:=H;rw[z]
     repeat refine⟨rfl,?_⟩
     conv=>whnf
     exact⟨⟨_,rfl,⟨a1,c1,rfl,M⟩⟩,(G.trans Q).lg⟩
    |none=>
     rw[L]at H z;obtain⟨a1,c1,rfl,M⟩:=H
     repeat refine⟨rfl,?_⟩
     refine⟨ab,?_⟩
     conv=>whnf
     exact⟨rfl,m+1,T1,⟨K.trans Q,.inr O1,λ N ai=>by
      by_cases e:N=m
      .rw[e];exact L
      .exact W N O1,z⟩,L1⟩
   .have hge:b.cs.length<=m+1:=by simp at I;omega
    rw[show b.cs.length-1-m=0 by omega]at z;have z:Xd F 0 (b.cs.length-1)=none:=z;rw[z]
    repeat refine⟨rfl,?_⟩
    conv=>whnf
    exact⟨⟨_,rfl,.nil⟩,G.lg⟩
  |false=>
   have ad:Xj false=2:=rfl;have ae:Xj (!false)=1:=rfl;rw[ad,ae]at hC ⊢
   repeat refine⟨rfl,?_⟩
   refine⟨_,⟨rfl,P.rd⟩,?_⟩;refine⟨Gi.any,V.go λ _=>?_⟩
   repeat refine⟨rfl,?_⟩
   conv=>whnf
   apply Qe<;>intro I
   .have X:b.fatR q=2:=by simpa using I
    rw[if_pos X]
    repeat refine⟨rfl,?_⟩
    conv=>whnf
    exact⟨⟨_,rfl,.nil⟩,E.lg⟩
   have X:b.fatR q≠2:=by simpa using I
   rw[if_neg X]
   repeat refine⟨rfl,?_⟩
   conv=>whnf
   apply Qe<;>intro I
   .have Y:b.fatR q=1:=by simpa using I
    rw[if_pos Y]
    repeat refine⟨rfl,?_⟩
    conv=>whnf
    exact⟨⟨_,rfl,.nil⟩,E.lg⟩
   have Y:b.fatR q≠1:=by simpa using I
   rw[if_neg Y]
   refine⟨Nat,λ m=>[(1,.int .i64 q),(3,.pointer (some ⟨B,0,none⟩)),(9,.pointer (some ⟨b9,0,none⟩)),(10,.int .i64 2),(12,.int .i64 (m+1:Nat))],
    λ m U'=>U2.le U'/\(m=0\/m+1<=b.cs.length)/\(∀N,N<m->F N=none)/\Xd F 0 (b.cs.length-1)=Xd F m (b.cs.length-1-m),λ m=>b.cs.length-m,0,T1,⟨.refl _,.inl rfl,S1,rfl⟩,?_⟩
   rintro m f U3⟨K,hm,W,z⟩;have ab:Zu (((m+1:Nat):Int)+1):=I1
   have G:=E.trans K;refine⟨_,(hB.le K).sees3 (o:=1) rfl,?_⟩
   repeat refine⟨rfl,?_⟩
   conv=>whnf
   apply Qe<;>intro I
   .have hlt:m+1<b.cs.length:=by simp at I;omega
    obtain⟨sd,Lf,Lt,hD,T⟩:=hC X Y m hlt W;rw[show b.cs.length-1-m=(b.cs.length-1-(m+1))+1 by omega,EB]at z;refine⟨_,⟨rfl,(P.le K).rd⟩,?_⟩;refine⟨Oq.any,(E1 (U:=U3) (G.tok.trans aa) h b (hb.lg G.lg.frz2) hok q hq 2 m hD).mono ?_⟩;rintro _ U4⟨⟨v1,rfl,H⟩,Q⟩-;rw[T]at H ⊢;cases L:F m with
    |some x=>
     rw[L]at H z;obtain⟨a1,c1,rfl,M⟩:=H;rw[z]
     repeat refine⟨rfl,?_⟩
     conv=>whnf
     exact⟨⟨_,rfl,⟨a1,c1,rfl,M⟩⟩,(G.trans Q).lg⟩
    |none=>
     rw[L]at H z;obtain⟨a1,c1,rfl,M⟩:=H
     repeat refine⟨rfl,?_⟩
     refine⟨ab,?_⟩
     conv=>whnf
     exact⟨rfl,m+1,T1,⟨K.trans Q,.inr O1,λ N ai=>by
      by_cases e:N=m
      .rw[e];exact L
      .exact W N O1,z⟩,L1⟩
   .have hge:b.cs.length<=m+1:=by simp at I;omega
    rw[show b.cs.length-1-m=0 by omega]at z;have z:Xd F 0 (b.cs.length-1)=none:=z;rw[z]
    repeat refine⟨rfl,?_⟩
    conv=>whnf
    exact⟨⟨_,rfl,.nil⟩,G.lg⟩
 .have ac:b.staF r w F=none:=by unfold Bk.staF;rw[if_neg hF]
  rw[if_neg hF,ac];refine⟨rfl,Zt (vs:=[.slice none 0 0,.slice none 0 0]) ag rfl (by simp[Value.single]) λ U3 ah _=>?_⟩
  repeat refine⟨rfl,?_⟩
  conv=>whnf
  apply Qe<;>intro I
  .repeat refine⟨rfl,?_⟩
   conv=>whnf
   exact⟨⟨_,rfl,.nil⟩,(Z.trans ah).lg⟩
  .exact absurd (by simpa using I) hF
end Go.Proofs

