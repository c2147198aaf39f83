/- Lemmas. No conditions. -/
import Derived.Test.YtcakpkianonbkaaGreatDoorB42
import Derived.Test.YtcakpkianonbkaaGreatDoorB37
import Derived.Test.YtcakpkianonbkaaGreatDoorB05
import Derived.Test.YtcakpkianonbkaaGreatDoorB33
set_option linter.all false
open List
open Go.Proofs.Tryz (prog)
set_option maxRecDepth 100000
namespace Go.TM
variable{T:Type}{P:Program}{S:Sys P T}{U U':Qa T}
abbrev J_(mb b h e:Nat)(r v:Value)(E:List (Int×Value))(L:List Nat)(M:List Qw):List Qw:=
 .obj mb (Qt QS E)::.obj b (.cells [r,v].toArray 43 (0,0))::.obj h (.cells (ZU L).toArray 3 (0,0))::.obj e (.cells [.slice none 0 0,.slice none 0 0].toArray 90 (0,0))::M
def Jr(K:List Nat):List (Int×Value):=JI K.length (λ p=>(K.getD p 0:Nat)) λ p=>.int .i64 (p:Nat)
def F7(K:List Nat):(Jr K).length=K.length:=Fh _ _ _
def MR{K:List Nat}{p:Nat}(h:p<K.length):(Jr K)[p]?=some (((K.getD p 0:Nat):Int),.int .i64 (p:Nat)):=OS h
def sk{K:List Nat}(b:K.Nodup){q r:Nat}(e:q<K.length)(w:r<K.length)(h:K.getD q 0=K.getD r 0):q=r:=by
 simp only[getD_eq_getElem?_getD,getElem?_eq_getElem e,getElem?_eq_getElem w,Option.getD_some]at h;exact(getElem_inj b).1 h
def UR{K:List Nat}{q:Nat}(b:q<K.length):K.getD q 0∈K:=by
 simp only[getD_eq_getElem?_getD,getElem?_eq_getElem b,Option.getD_some];exact getElem_mem b
def kh{K:List Nat}{k:Nat}(h:k∉K):ZC ((k:Nat):Int) (.int .i64 (K.length:Nat)) (Jr K)=Jr (K++[k]):=by
 have b:=(T7 (m:=K.length) (k:=((k:Nat):Int)) (ky:=λ p=>(K.getD p 0:Nat)) (vl:=λ p=>.int .i64 (p:Nat)) λ q z e=>h (by
  have e':K.getD q 0=k:=Int.ofNat.inj e;rw[<- e'];exact UR z)).2 (.int .i64 (K.length:Nat))
 unfold Jr;rw[b,length_append,length_cons,length_nil,DL];congr 1
 .refine pg λ p w=>⟨?_,rfl⟩;rw[getD_eq_getElem?_getD,getD_eq_getElem?_getD,getElem?_append_left w]
 .simp[getD_eq_getElem?_getD]
def uZ{K:List Nat}(b:K.Nodup){p:Nat}(h:p<K.length):lk ((K.getD p 0:Nat):Int) (Jr K)=some (.int .i64 (p:Nat)):=
 N8 (m:=K.length) (ky:=λ p=>((K.getD p 0:Nat):Int)) (vl:=λ p=>.int .i64 (p:Nat)) h λ q r w z e=>sk b w z (Int.ofNat.inj e)
def sT{K:List Nat}{k:Nat}(h:k∉K):lk ((k:Nat):Int) (Jr K)=none:=
 (T7 (m:=K.length) (ky:=λ p=>((K.getD p 0:Nat):Int)) (vl:=λ p=>.int .i64 (p:Nat)) λ q b e=>h (by
  have e':K.getD q 0=k:=Int.ofNat.inj e;rw[<- e'];exact UR b)).1
def N3{f:Nat->Bool}{j:Nat}:∀{n:Nat},j<=n->∃Y,Bk.kpt f n=Bk.kpt f j++Y
 |0,h=>⟨[],by rw[Nat.le_zero.1 h];simp⟩
 |n+1,h=>by
  by_cases e:j=n+1
  .exact⟨[],by rw[e];simp⟩
  .obtain⟨Y,hY⟩:=N3 (f:=f) (j:=j) (n:=n) O1;cases b:f n with
   |true=>exact⟨Y,by rw[Bk.kpt_out b,hY]⟩
   |false=>exact⟨Y++[n],by rw[Bk.kpt_in b,hY,append_assoc]⟩
def df{f:Nat->Bool}{j n:Nat}(h:j<n)(e:f j=false):(Bk.kpt f j).length<(Bk.kpt f n).length/\(Bk.kpt f n).getD (Bk.kpt f j).length 0=j:=by
 obtain⟨Y,b⟩:=N3 (f:=f) (show j+1<=n by omega);rw[Bk.kpt_in e]at b;rw[b];constructor
 .simp
 .simp[getD_eq_getElem?_getD]
end Go.TM
namespace Go.Proofs
open Go.TM
variable{T:Type}{S:TM.Sys prog T}{U:Qa T}
attribute [local irreducible] Qb Zh Wh
set_option maxHeartbeats 4000000 in
def Fy(h:BH)(b:Bk)(hb:Zp U.frz h b)(a8:b.Ok)(o:Nat)(ho:o<2^60):Qb S 40 #[h.v,.int .i64 o] (λ v U'=>(∃h':BH,v=h'.v/\Zp U'.frz h' (b.wo o.testBit)/\h'.rl<=h'.rc)/\U.le U') U:=by
 have bo:=hb.cs.1;have hh:=hb.rs.1;have hd:=a8.nc;have he:=a8.nr;obtain⟨i3,f9,gi,gk,hu⟩:=MW;generalize d3:Pk o.testBit b.cs.length b.cs.length (b.A.map Jb)=W;have hW:=a8.wlW o.testBit;rw[d3]at hW
 have d4:WB b.cs.length 5 (b.A.map Jb):=⟨by simp[b.A_length],λ x H=>by
  obtain⟨l,hl,rfl⟩:=mem_map.1 H;refine Nat.lt_of_lt_of_le (ui (n:=5) λ k hk=>?_) (Nat.le_refl _);simp only[Bk.A,mem_map]at hl;obtain⟨c,hc,rfl⟩:=hl;obtain⟨n,hn,rfl⟩:=mem_map.1 hk;have:=a8.af c hc n hn;unfold Bk.nc at this;omega⟩
 have ff:Qb S 40 #[h.v,.int .i64 o] (λ v U'=>(∃(h':BH)(Z:List Qw),v=h'.v/\QR U' h' (b.wo o.testBit) (Z++U.M))/\(∀x q,U.I x=some q->U'.I x=some q)/\U'.tok=U.tok) U:=by
  refine Qb.of (args:=[_,_]) SD Qe S1 ?_
  repeat refine⟨rfl,?_⟩
  conv=>whnf
  intro B U1 bn hB;have hB:Zf U1 B #[.slice h.ra h.rl h.rc,.slice h.ca h.cl h.cc]:=hB
  conv=>whnf
  intro V g6;refine⟨_,.refl _,?_⟩;have el:=Z2 (U:=U1) V (.cells #[.slice none 0 0,.slice none 0 0] 90);refine⟨_,(hB.lg el).sees3 (o:=1) rfl,?_⟩
  conv=>whnf
  refine I6 (n:=h.cl) V7 f9 gi rfl gk O1 rfl rfl O1 λ N hq=>?_;have cg:=el.trans (Z2 (U:=U1.put V (.cells #[.slice none 0 0,.slice none 0 0] 90)) N (.cells (replicate h.cl (Value.int .i64 0)).toArray 3));refine⟨_,(hB.lg cg).sees3 (o:=1) rfl,Nat,λ i=>[(1,.int .i64 o),(2,.pointer (some ⟨B,0,none⟩)),(4,.pointer (some ⟨V,0,none⟩)),(5,.slice (some ⟨N,0,none⟩) h.cl h.cl),(26,.slice h.ca h.cl h.cc),(27,.int .i64 h.cl),(28,.int .i64 i)],
   λ i U'=>U1.frz.lg U'/\i<=h.cl/\U'.M=.obj N (.cells (ZU (XU (b.A.map Jb) h.cl i)).toArray 3 (0,0))::.obj V (.cells [.slice none 0 0,.slice none 0 0].toArray 90 (0,0))::U.M,λ i=>h.cl-i,0,T1,⟨Qm.trans cg,O1,?_⟩,?_⟩
  .rw[gT,<- kY];show _::_::U1.M=_;rw[bn.own]
  rintro i f U2⟨P,hi,hM⟩;have a5:Ze ((i:Int)+1):=I1
  repeat refine⟨rfl,?_⟩
  conv=>whnf
  apply Qd<;>intro hc
  .have hlt:i<h.cl:=by simpa using hc
   obtain⟨ad,c,ga,gl,gc,aa,al,ac,H,c1,e9,bg,-,-,ha,d5,ax⟩:=(hb.lg (bn.lg.frz2.trans P.frz2)).case hlt;have cy:=a8.toLow.lt ax;refine⟨ad,i,⟨c1,rfl,hlt⟩,_,⟨rfl,bg.lg Qm⟩,?_⟩
   conv=>whnf
   intro b7 ft;refine⟨_,.refl _,rfl,Zu (vs:=[.string c.nm,.int .i64 c.ag,.slice ga gl gc,.slice aa al ac]) ft rfl (by simp[Value.single]) λ U3 aq fp=>?_⟩;refine⟨_,fp.sees3 (o:=3) rfl,Hb.any,(Je aa al ac c.af ((ha.lg aq.lg.frz2).lg Qm) d5 cy).go λ _=>?_⟩;have fo:(b.A.map Jb)[i]?=some (Jb (c.af.map Int.toNat)):=by simp[Bk.A,H]
   have fv:=kT (X:=b.A.map Jb) (n:=h.cl) (i:=i) (by simp[b.A_length,bo]) hi;refine⟨⟨N,0,none⟩,i,⟨rfl,rfl,hlt⟩,rfl,?_⟩;rw[Nat.mul_one];refine WQ (i:=i) (v:=.int .i64 (Jb (c.af.map Int.toNat):Nat)) [] (aq.own.trans hM) (by simp[EP,fv];omega) rfl λ U4 dc f6 ay=>?_;rw[EQ,vY fo (by simp[b.A_length,bo])]at ay;refine⟨a5,?_⟩
   conv=>whnf
   exact⟨rfl,i+1,T1,⟨⟨λ x q H=>by rw[dc];exact aq.imm x q (P.imm x q H),⟨_,(append_nil _).symm⟩,f6.trans (aq.tok.trans P.tok)⟩,O1,ay⟩,L1⟩
  have aj:i=h.cl:=by simp at hc;omega
  subst aj;rw[kS (by simp[b.A_length,bo])]at hM;refine⟨_,(hB.imI P.imm).sees3 (o:=1) rfl,Nat×List Nat,λ y=>[(1,.int .i64 o),(2,.pointer (some ⟨B,0,none⟩)),(4,.pointer (some ⟨V,0,none⟩)),(5,.slice (some ⟨N,0,none⟩) h.cl h.cl),(43,.int .i64 h.cl),(44,.int .i64 y.1)],
   λ y U'=>U1.frz.lg U'/\y.1<=h.cl/\U'.M=.obj N (.cells (ZU y.2).toArray 3 (0,0))::.obj V (.cells [.slice none 0 0,.slice none 0 0].toArray 90 (0,0))::U.M/\WB h.cl 5 y.2/\Pk o.testBit h.cl (h.cl-y.1) y.2=W,λ y=>h.cl-y.1,(0,b.A.map Jb),T1,⟨P,O1,hM,by rw[<- bo];exact d4,by rw[<- d3,bo];rfl⟩,?_⟩
  clear hM P a5 hi;rintro⟨r,L⟩f U2⟨P,hr,hM,bm,a6⟩;simp only at hr hM bm a6;have ei:Ze ((r:Int)+1):=I1
  repeat refine⟨rfl,?_⟩
  conv=>whnf
  apply Qd<;>intro hc
  .have hrt:r<h.cl:=by simpa using hc
   rw[show h.cl-r=(h.cl-(r+1))+1 by omega]at a6
   refine⟨Nat,λ i=>[(1,.int .i64 o),(2,.pointer (some ⟨B,0,none⟩)),(4,.pointer (some ⟨V,0,none⟩)),(5,.slice (some ⟨N,0,none⟩) h.cl h.cl),(43,.int .i64 h.cl),(44,.int .i64 r),(47,.int .i64 h.cl),(48,.int .i64 i)],
    λ i U'=>U1.frz.lg U'/\i<=h.cl/\U'.M=.obj N (.cells (ZU (XY o.testBit h.cl L i)).toArray 3 (0,0))::.obj V (.cells [.slice none 0 0,.slice none 0 0].toArray 90 (0,0))::U.M,λ i=>h.cl-i,0,T1,⟨P,O1,hM⟩,?_⟩
   rintro i f U3⟨ab,hi,av⟩;have a5:Ze ((i:Int)+1):=I1
   have fb:=bm.rto (out:=o.testBit) i
   repeat refine⟨rfl,?_⟩
   conv=>whnf
   apply Qd<;>intro hc
   .have hit:i<h.cl:=by simpa using hc
    refine⟨_,(hB.imI ab.imm).sees3 (o:=1) rfl,Nat,λ k=>[(1,.int .i64 o),(2,.pointer (some ⟨B,0,none⟩)),(4,.pointer (some ⟨V,0,none⟩)),(5,.slice (some ⟨N,0,none⟩) h.cl h.cl),(8,.int .i64 i),(43,.int .i64 h.cl),(44,.int .i64 r),(47,.int .i64 h.cl),(48,.int .i64 i),(54,.int .i64 h.cl),(55,.int .i64 k)],
     λ k U'=>U1.frz.lg U'/\k<=h.cl/\U'.M=.obj N (.cells (ZU (Hz o.testBit i (XY o.testBit h.cl L i) k)).toArray 3 (0,0))::.obj V (.cells [.slice none 0 0,.slice none 0 0].toArray 90 (0,0))::U.M,λ k=>h.cl-k,0,T1,⟨ab,O1,av⟩,?_⟩
    rintro k f U4⟨ao,hk,ay⟩;have ak:Ze ((k:Int)+1):=I1
    have b5:=fb.to (out:=o.testBit) (i:=i) k;have Q:=DP o.testBit i (XY o.testBit h.cl L i) k;generalize dl:Hz o.testBit i (XY o.testBit h.cl L i) k=Lk at ay b5 Q;unfold WW at Q;have bq:∀j,Lk.getD j 0<2^60:=λ j=>Nat.lt_trans (b5.at j) D1
    have bg:∀j,j<h.cl->U4.sees ((Addr.mk N 0 none).add (j*1)) (.int .i64 (Lk.getD j 0:Nat)):=λ j hj=>by
     rw[Nat.mul_one];exact Q9 [] ay j _ (Na (by rw[b5.len];exact hj))
    repeat refine⟨rfl,?_⟩
    conv=>whnf
    apply Qd<;>intro hc
    .have hkt:k<h.cl:=by simpa using hc
     have a4:=Gi (bq i) (show k<60 by omega);have bt:=Gi ho (show k<60 by omega);refine⟨⟨N,0,none⟩,i,⟨rfl,rfl,hit⟩,_,bg i hit,O1,?_⟩
     repeat refine⟨rfl,?_⟩
     conv=>whnf
     apply Q7<;>intro hc
     .have hb1:(Lk.getD i 0).testBit k=true:=a4.symm.trans hc;rw[hb1,Bool.true_and]at Q;refine⟨O1,?_⟩
      repeat refine⟨rfl,?_⟩
      conv=>whnf
      apply Qd<;>intro hc
      .have hb2:o.testBit k=true:=bt.symm.trans hc;rw[if_pos hb2]at Q;refine⟨⟨N,0,none⟩,i,⟨rfl,rfl,hit⟩,_,bg i hit,⟨N,0,none⟩,k,⟨rfl,rfl,hkt⟩,_,bg k hkt,?_⟩
       conv=>whnf
       intro U5 cv _;refine⟨rfl,⟨N,0,none⟩,i,⟨rfl,rfl,hit⟩,rfl,?_⟩;rw[Nat.mul_one];refine WQ (i:=i) [] (cv.own.trans ay) (by simp[EP,b5.len];omega) rfl λ U6 dd fa dy=>?_
       have dt:U6.M=.obj N (.cells (ZU (Hz o.testBit i (XY o.testBit h.cl L i) (k+1))).toArray 3 (0,0))::.obj V (.cells [.slice none 0 0,.slice none 0 0].toArray 90 (0,0))::U.M:=by
        rw[Q,<- EQ,<- Dv (bq i) (bq k)];exact dy
       refine⟨ak,?_⟩
       conv=>whnf
       exact⟨rfl,k+1,T1,⟨⟨λ x q H=>by rw[dd];exact cv.imm x q (ao.imm x q H),⟨_,(append_nil _).symm⟩,fa.trans (cv.tok.trans ao.tok)⟩,O1,dt⟩,L1⟩
      .have hb2:o.testBit k=false:=bt.symm.trans hc;rw[hb2,if_neg S1]at Q;refine⟨ak,?_⟩
       conv=>whnf
       exact⟨rfl,k+1,T1,⟨ao,O1,by rw[Q];exact ay⟩,L1⟩
     .have hb1:(Lk.getD i 0).testBit k=false:=a4.symm.trans hc;rw[hb1,Bool.false_and,if_neg S1]at Q;refine⟨ak,?_⟩
      conv=>whnf
      exact⟨rfl,k+1,T1,⟨ao,O1,by rw[Q];exact ay⟩,L1⟩
    .have aj:k=h.cl:=by simp at hc;omega
     subst aj;rw[Fk,<- DR]at dl;subst dl;refine⟨a5,?_⟩
     conv=>whnf
     exact⟨rfl,i+1,T1,⟨ao,O1,ay⟩,L1⟩
   .have aj:i=h.cl:=by simp at hc;omega
    subst aj;refine⟨ei,?_⟩
    conv=>whnf
    exact⟨rfl,(r+1,XY o.testBit h.cl L h.cl),T1,⟨ab,by show r+1<=h.cl;omega,av,fb,a6⟩,L1⟩
  have aj:r=h.cl:=by simp at hc;omega
  subst aj;rw[Nat.sub_self]at a6;obtain rfl:L=W:=a6;have bq:∀j,L.getD j 0<2^60:=λ j=>Nat.lt_trans (bm.at j) D1;have eb:U.frz.lg U2.frz:=bn.lg.frz2.trans P.frz2;refine⟨_,(hB.imI P.imm).sees3 (o:=0) rfl,Sl.any,(FC h.ra h.rl h.rc b.rs ((hb.rs.lg eb λ _ _ h=>h).lg Qm λ _ _ h=>h) O1).mono ?_⟩;rintro _ U3⟨⟨ra,rl,rc,rfl,c6,e7⟩,aq⟩-
  conv=>whnf
  intro z d9;refine⟨_,.refl _,rfl,Gd (vs:=[.slice ra rl rc,.slice none 0 0]) rfl (by simp[Value.single]) ?_⟩
  conv=>whnf
  refine PH QS λ mb f1=>?_;have ab:U1.frz.lg U3:=P.trans aq.lg;have g2:=e7.1
  let K:Nat->List Nat:=λ j=>Bk.kpt o.testBit j
  have av:((U3.put z (.cells [.slice ra rl rc,.slice none 0 0].toArray 43)).put mb (Qt QS [])).M=J_ mb z N V (.slice ra rl rc) (.slice none 0 0) (Jr (K 0)) L U.M:=by
   show _::_::U3.M=_;rw[aq.own,hM];rfl
  have bj:U1.frz.lg ((U3.put z (.cells [.slice ra rl rc,.slice none 0 0].toArray 43)).put mb (Qt QS [])):=⟨ab.imm,⟨_,(append_nil _).symm⟩,ab.tok⟩;have bz:Qy ((U3.put z (.cells [.slice ra rl rc,.slice none 0 0].toArray 43)).put mb (Qt QS [])).frz ra rl 1 b.rs λ s vs=>vs=[.string s]:=e7;generalize((U3.put z (.cells [.slice ra rl rc,.slice none 0 0].toArray 43)).put mb (Qt QS []))=U4 at av bj bz ⊢;refine⟨_,(hB.imI bj.imm).sees3 (o:=1) rfl,Nat×Value,λ y=>[(1,.int .i64 o),(2,.pointer (some ⟨B,0,none⟩)),(4,.pointer (some ⟨V,0,none⟩)),(5,.slice (some ⟨N,0,none⟩) h.cl h.cl),(10,.pointer (some ⟨z,0,none⟩)),(11,.map (some mb)),(94,.slice h.ca h.cl h.cc),(95,.int .i64 h.cl),(96,.int .i64 y.1)],
   λ y U'=>U4.frz.lg U'/\y.1<=h.cl/\∃(ps:List (Cs×ZO))(A:List Qw),ps.map (·.1)=b.woL (K y.1) (λ _=>[])/\(∀p∈ps,X7 U' p/\p.2.F=[])/\Jx 48 4 y.2 (ps.flatMap Q_) A/\U'.M=A++J_ mb z N V (.slice ra rl rc) y.2 (Jr (K y.1)) L U.M,λ y=>h.cl-y.1,(0,.slice none 0 0),T1,⟨⟨λ _ _ h=>h,⟨_,(append_nil _).symm⟩,rfl⟩,O1,[],[],rfl,S1,.nil,av⟩,?_⟩
  clear hM P av aq ab d9 f1;rintro⟨i,v⟩f U5⟨P,hi,ps,A,bp,ap,aw,hM⟩;simp only at bp aw hM hi;obtain⟨sa,sl,sc,rfl,f4⟩:=aw.src;rw[Q1 Z4]at f4
  have hf:ps.length=(K i).length:=by
   have:=congrArg List.length bp
   rwa [length_map,Bk.woL_len]at this
  have g4:(K i).length<=i:=Bk.kpt_len i;have a5:Ze ((i:Int)+1):=I1
  have an:U1.frz.lg U5:=⟨λ x q H=>P.imm x q (bj.imm x q H),⟨_,(append_nil _).symm⟩,P.tok.trans bj.tok⟩
  repeat refine⟨rfl,?_⟩
  conv=>whnf
  apply Qd<;>intro hc
  .have hlt:i<h.cl:=by simpa using hc
   have bt:=Gi ho (show i<60 by omega);obtain⟨ad,c,ga,gl,gc,aa,al,ac,H,c1,e9,bg,ee,g7,ha,d5,ax⟩:=(hb.lg (bn.lg.frz2.trans an.frz2)).case hlt;have d6:=Bk.cas_at H;have fw:=a8.gs c ax;have gy:=a8.gl c ax;have d7:=hb.cn c ax;have gx:=(a8.asc ax).1;have g0:=ee.1;have cf:=ha.1;refine⟨ad,i,⟨c1,rfl,hlt⟩,_,⟨rfl,bg.lg Qm⟩,?_⟩
   conv=>whnf
   intro ai ea;refine⟨_,.refl _,?_⟩;cases a1:o.testBit i with
   |true=>
    have br:K (i+1)=K i:=Bk.kpt_out a1;refine⟨rfl,Zu (vs:=[.string c.nm,.int .i64 c.ag,.slice ga gl gc,.slice aa al ac]) ea rfl (by simp[Value.single]) λ U6 cw _=>?_⟩;refine⟨O1,?_⟩
    repeat refine⟨rfl,?_⟩
    conv=>whnf
    apply Qd<;>intro hc
    .refine⟨a5,?_⟩
     conv=>whnf
     exact⟨rfl,(i+1,.slice sa sl sc),T1,⟨P.trans cw.lg,by show i+1<=h.cl;omega,ps,A,by show _=b.woL (K (i+1)) _;rw[br];exact bp,λ p hp=>⟨(ap p hp).1.lg cw.lg.frz2,(ap p hp).2⟩,aw,by show _=A++J_ mb z N V _ _ (Jr (K (i+1))) L U.M;rw[br];exact cw.own.trans hM⟩,L1⟩
    .have:=bt.symm.trans hc;rw[a1]at this;cases this
   |false=>
    have br:K (i+1)=K i++[i]:=Bk.kpt_in a1;have ep:i∉K i:=λ hm=>absurd (Bk.kpt_lt hm).1 (Nat.lt_irrefl _);refine⟨rfl,Gd (vs:=[.string c.nm,.int .i64 c.ag,.slice ga gl gc,.slice aa al ac]) rfl (by simp[Value.single]) ?_⟩
    have cr:(U5.put ai (.cells [.string c.nm,.int .i64 c.ag,.slice ga gl gc,.slice aa al ac].toArray 48)).M=(.obj ai (.cells [.string c.nm,.int .i64 c.ag,.slice ga gl gc,.slice aa al ac].toArray 48 (0,0))::A)++J_ mb z N V (.slice ra rl rc) (.slice sa sl sc) (Jr (K i)) L U.M:=by
     show _::U5.M=_;rw[hM];rfl
    have c9:U5.frz.lg (U5.put ai (.cells [.string c.nm,.int .i64 c.ag,.slice ga gl gc,.slice aa al ac].toArray 48)):=⟨λ _ _ h=>h,⟨_,(append_nil _).symm⟩,rfl⟩;generalize(U5.put ai (.cells [.string c.nm,.int .i64 c.ag,.slice ga gl gc,.slice aa al ac].toArray 48))=U6 at cr c9 ⊢;refine⟨O1,?_⟩
    repeat refine⟨rfl,?_⟩
    conv=>whnf
    apply Qd<;>intro hc
    .have:=bt.symm.trans hc;rw[a1]at this;cases this
    refine⟨_,(J2 (b:=z) (e:=43) (vs:=[.slice ra rl rc,.slice sa sl sc]) (by rw[cr];simp)).cell (i:=1) rfl,?_⟩
    conv=>whnf
    obtain⟨Mu,d1⟩:=dR (M:=U6.M) (b:=mb) (o:=Qt QS (Jr (K i))) (L₁:=.obj ai (.cells [.string c.nm,.int .i64 c.ag,.slice ga gl gc,.slice aa al ac].toArray 48 (0,0))::A) (L₂:=.obj z (.cells [.slice ra rl rc,.slice sa sl sc].toArray 43 (0,0))::.obj N (.cells (ZU L).toArray 3 (0,0))::.obj V (.cells [.slice none 0 0,.slice none 0 0].toArray 90 (0,0))::U.M) (by rw[cr]);have e8:(.int .i64 (sl:Int):Value)=.int .i64 ((K i).length:Nat):=by rw[show sl=(K i).length by omega]
    refine T4 (b:=mb) (k:=((i:Nat):Int)) (l:=Jr (K i)) (v:=.int .i64 sl) (M':=Mu (Qt QS (Jr (K (i+1))))) Vf KG rfl rfl rfl (by rw[e8,kh ep,<- br];exact(d1 _).1) ?_;have c5:({ U6 with M:=Mu (Qt QS (Jr (K (i+1)))) }:Qa T).M.Perm _:=(d1 (Qt QS (Jr (K (i+1))))).2;have b1:U5.frz.lg ({ U6 with M:=Mu (Qt QS (Jr (K (i+1)))) }:Qa T):=⟨c9.imm,⟨_,(append_nil _).symm⟩,c9.tok⟩;generalize({ U6 with M:=Mu (Qt QS (Jr (K (i+1)))) }:Qa T)=Ux at c5 b1 ⊢;refine⟨_,⟨rfl,J2 (b:=ai) (e:=48) (vs:=[.string c.nm,.int .i64 c.ag,.slice ga gl gc,.slice aa al ac]) (c5.mem_iff.2 S1)⟩,?_⟩;refine⟨Sm.any,(Fx (U:=Ux) c ga aa gl gc al ac (ee.lg b1.frz2) O1 (ha.lg b1.frz2) O1 (λ g hg=>by have:=(fw g hg).1;omega) d7).mono ?_⟩;rintro _ U7⟨⟨⟨a9,bc,ba,kv,kF⟩,rfl,hk,bi⟩,bh,bl⟩-;obtain⟨a0,l0,c0,e0,-⟩:=hk.af.src;obtain rfl:kv=.slice a0 l0 c0:=e0
    have ev:U7.M.Perm (kF++(.obj ai (.cells [.string c.nm,.int .i64 c.ag,.slice ga gl gc,.slice aa al ac].toArray 48 (0,0))::(A++J_ mb z N V (.slice ra rl rc) (.slice sa sl sc) (Jr (K (i+1))) L U.M))):=by
     rw[bi];exact Perm.append_left _ c5
    have fh:∀x q,U5.I x=some q->U7.I x=some q:=λ x q H=>bh x q (b1.imm x q H);have f7:U7.tok=U5.tok:=bl.trans b1.tok;refine⟨rfl,VW (vs:=[.string c.nm,.int .i64 c.ag,.slice a9 bc ba,.slice a0 l0 c0]) ev rfl (by simp[Value.single]) λ U8 b8 ck d0=>?_⟩;refine⟨rfl,eL (b:=ai) (e:=48) (c:=[.string c.nm,.int .i64 c.ag,.slice a9 bc ba,.slice a0 l0 c0].toArray) (L₁:=kF) (L₂:=A++J_ mb z N V (.slice ra rl rc) (.slice sa sl sc) (Jr (K (i+1))) L U.M) (i:=3) (v:=.slice none 0 0) (by rw[d0]) (by show 3<4;omega) rfl λ U9 b9 cm a3=>?_⟩;have a3:U9.M=kF++.obj ai (.cells [.string c.nm,.int .i64 c.ag,.slice a9 bc ba,.slice none 0 0].toArray 48 (0,0))::(A++J_ mb z N V (.slice ra rl rc) (.slice sa sl sc) (Jr (K (i+1))) L U.M):=a3;have da:U5.frz.lg U9.frz:=⟨λ x q H=>by show U9.I x=_;rw[b9,b8];exact fh x q H,⟨[],rfl⟩,by show U9.tok=_;rw[cm,ck];exact f7⟩;have fc:U7.frz.lg U9.frz:=⟨λ x q H=>by show U9.I x=_;rw[b9,b8];exact H,⟨[],rfl⟩,by show U9.tok=_;rw[cm,ck];rfl⟩;refine⟨_,(J2 (b:=z) (e:=43) (vs:=[.slice ra rl rc,.slice sa sl sc]) (by rw[a3];simp)).cell (i:=1) rfl,?_⟩;refine⟨_,⟨rfl,J2 (b:=ai) (e:=48) (vs:=[.string c.nm,.int .i64 c.ag,.slice a9 bc ba,.slice none 0 0]) (by rw[a3];simp)⟩,?_⟩
    conv=>whnf
    intro bb fu
    refine gC (M':=A++J_ mb z N V (.slice ra rl rc) (.slice sa sl sc) (Jr (K (i+1))) L U.M) (M₀:=kF++[.obj ai (.cells [.string c.nm,.int .i64 c.ag,.slice a9 bc ba,.slice none 0 0].toArray 48 (0,0))]) fu (by
     rw[a3];refine Perm.trans ?_ perm_append_comm;rw[append_assoc];exact Perm.refl _) λ Ua cp c8 ct cz=>?_
    have b0:U9.frz.lg Ua.frz:=⟨cp,⟨[],rfl⟩,c8⟩;have cz:Zf Ua bb (Q_ (({ c with af:=[] }:Cs),(⟨a9,bc,ba,.slice none 0 0,[]⟩:ZO))).toArray:=cz
    conv=>whnf
    refine Wy (v:=.slice sa sl sc) (cs:=ps.flatMap Q_) (new:=Q_ (({ c with af:=[] }:Cs),(⟨a9,bc,ba,.slice none 0 0,[]⟩:ZO))) (M₀:=J_ mb z N V (.slice ra rl rc) (.slice sa sl sc) (Jr (K (i+1))) L U.M) LE rfl rfl (by rw[ct];exact aw _) (.inr ⟨_,rfl,cz.rd⟩) rfl (by simp[Q_,Value.single]) (by rw[Q1 Z4,Z4];omega) λ v' M' cx _=>?_;obtain⟨co,cq,ce⟩:=cx.split;obtain⟨ta,tl,tc,rfl,-⟩:=ce.src;refine⟨rfl,WQ (b:=z) (e:=43) (c:=[.slice ra rl rc,.slice sa sl sc].toArray) (M₀:=.obj N (.cells (ZU L).toArray 3 (0,0))::.obj V (.cells [.slice none 0 0,.slice none 0 0].toArray 90 (0,0))::U.M) (i:=1) (v:=.slice ta tl tc) (co++[.obj mb (Qt QS (Jr (K (i+1))))]) (by show M'=_;rw[cq];simp) (by show 1<2;omega) rfl λ Uc fi f8 cu=>?_⟩;have cu:Uc.M=co++J_ mb z N V (.slice ra rl rc) (.slice ta tl tc) (Jr (K (i+1))) L U.M:=by rw[cu];simp
    have b6:U9.frz.lg Uc.frz:=b0.trans ⟨λ x q H=>by show Uc.I x=_;rw[fi];exact H,⟨[],rfl⟩,f8⟩;refine⟨a5,rfl,(i+1,.slice ta tl tc),T1,⟨⟨λ x q H=>b6.imm x q (da.imm x q (P.imm x q H)),⟨_,(append_nil _).symm⟩,b6.tok.trans (da.tok.trans P.tok)⟩,by show i+1<=h.cl;omega,ps++[(({ c with af:=[] }:Cs),(⟨a9,bc,ba,.slice none 0 0,[]⟩:ZO))],co,?_,?_,?_,cu⟩,L1⟩
    .show _=b.woL (K (i+1)) _;rw[br,Bk.woL_snoc,map_append,bp,d6];rfl
    .intro p hp;rcases mem_append.1 hp with hp|hp
     .exact⟨(ap p hp).1.lg (da.trans b6),(ap p hp).2⟩
     .rw[mem_singleton.1 hp];have:=hk.lg (fc.trans b6);exact⟨⟨this.gs,this.gl,.nil,this.nm,by show 0<=_;omega⟩,rfl⟩
    .rw[flatMap_append];simpa using ce
  have aj:i=h.cl:=by simp at hc;omega
  subst aj
  have E:QR U5 ⟨ra,rl,rc,sa,sl,sc⟩ (Bk.mk b.rs (b.woL (K h.cl) λ _=>[])) (J_ mb z N V (.slice ra rl rc) (.slice sa sl sc) (Jr (K h.cl)) L U.M):=by
   refine⟨⟨ps,A,bp,λ p hp=>(ap p hp).1,aw,?_⟩,bz.lg P.frz2 λ _ _ h=>h,by show rl<_;omega,hb.rn,c6⟩
   have:ps.flatMap (·.2.F)=[]:=by
    rw[flatMap_eq_nil_iff];exact λ p hp=>(ap p hp).2
   rw[this,hM];exact Perm.refl _
  clear hM aw bp ap a5 bz
  conv=>whnf
  refine TX (b:=mb) (enc:=QS) (l:=Jr (K h.cl)) KG rfl (.inr (E.mem _ S1)) λ it g1=>?_;have fj:(K h.cl).Nodup:=Bk.kpt_nodup _;have g9:(K h.cl).length<=5:=Nat.le_trans (Bk.kpt_len _) O1
  let G:Nat->List Int:=λ p=>Bk.afK o.testBit (L.getD ((K h.cl).getD p 0) 0) h.cl
  have E:QR (U5.put it (J1 mb (Jr (K h.cl)).length #[])) ⟨ra,rl,rc,sa,sl,sc⟩ (Bk.mk b.rs (b.woL (K h.cl) λ p=>if p∈(#[]:Array Nat)then G p else[])) (.obj it (J1 mb (Jr (K h.cl)).length #[])::J_ mb z N V (.slice ra rl rc) (.slice sa sl sc) (Jr (K h.cl)) L U.M):=by
   rw[show(λ p=>if p∈(#[]:Array Nat)then G p else[])=(λ _=>([]:List Int)) by funext p;simp];obtain⟨ps,A,h1,h2,h3,h4⟩:=E.ex;refine⟨⟨ps,A,h1,λ p hp=>(h2 p hp).lg ⟨λ _ _ h=>h,⟨[],rfl⟩,rfl⟩,h3,?_⟩,E.rs.lg ⟨λ _ _ h=>h,⟨[],rfl⟩,rfl⟩ λ _ _ h=>h,E.rl,E.rn,E.rc⟩;show(_::U5.M).Perm _;rw[<- append_assoc];refine(h4.cons _).trans ?_;rw[<- append_assoc];exact perm_middle.symm
  refine⟨Array Nat,λ _=>[(2,.pointer (some ⟨B,0,none⟩)),(4,.pointer (some ⟨V,0,none⟩)),(5,.slice (some ⟨N,0,none⟩) h.cl h.cl),(10,.pointer (some ⟨z,0,none⟩)),(11,.map (some mb)),(122,.pointer (some ⟨it,0,none⟩))],
   λ seen U'=>U5.frz.lg U'/\QR U' ⟨ra,rl,rc,sa,sl,sc⟩ (Bk.mk b.rs (b.woL (K h.cl) λ p=>if p∈seen then G p else[])) (.obj it (J1 mb (Jr (K h.cl)).length seen)::J_ mb z N V (.slice ra rl rc) (.slice sa sl sc) (Jr (K h.cl)) L U.M)/\seen.toList.Nodup/\∀i∈seen.toList,i<(K h.cl).length,λ seen=>(K h.cl).length-seen.size,#[],T1,⟨⟨λ _ _ h=>h,⟨_,(append_nil _).symm⟩,rfl⟩,E,S1,S1⟩,?_⟩
  clear E;rintro seen f U6⟨bk,E,em,ch⟩
  have f5:seen.size<=(K h.cl).length:=by
   have:=Hj em ch;simpa using this
  have bv:U1.frz.lg U6:=⟨λ x q H=>bk.imm x q (an.imm x q H),⟨_,(append_nil _).symm⟩,bk.tok.trans an.tok⟩;obtain⟨Xp,Yp,fl,c7,-,-⟩:=E.pick
  conv=>whnf
  refine Dc (b:=mb) (r:=it) (seen:=seen) (enc:=QS) (l:=Jr (K h.cl)) (λ q=>Xp++.obj it q::Yp) rfl (.inr (E.mem _ S1)) (λ q=>by rw[fl];exact PJ .here _) (λ cf=>?_) (λ q p hp en=>?_)
  .have hfin:(Bk.mk b.rs (b.woL (K h.cl) λ p=>if p∈seen then G p else[]))=b.wo o.testBit:=by
    rw[Bk.wo_woL hW,bo];congr 1;refine Bk.woL_congr λ p hp=>?_;rw[if_pos (cf p (by rw[F7];exact hp))]
   rw[hfin]at E
   repeat refine⟨rfl,?_⟩
   refine⟨_,⟨rfl,J2 (b:=z) (e:=43) (vs:=[.slice ra rl rc,.slice sa sl sc]) (E.mem _ S1)⟩,?_⟩
   conv=>whnf
   obtain⟨ps,A,h1,h2,h3,h4⟩:=E.ex;refine⟨rfl,VW (b:=V) (e:=90) (c:=[.slice none 0 0,.slice none 0 0].toArray) (vs:=[.slice ra rl rc,.slice sa sl sc]) (L₁:=A++(ps.flatMap (·.2.F)++[.obj it (J1 mb (Jr (K h.cl)).length seen),.obj mb (Qt QS (Jr (K h.cl))),.obj z (.cells [.slice ra rl rc,.slice sa sl sc].toArray 43 (0,0)),.obj N (.cells (ZU L).toArray 3 (0,0))])) (L₂:=U.M) (by simpa using h4) rfl (by simp[Value.single]) λ U7 bh bl bi=>?_⟩;refine⟨_,⟨rfl,J2 (b:=V) (e:=90) (vs:=[.slice ra rl rc,.slice sa sl sc]) (by rw[bi];simp)⟩,?_⟩;have hz:U6.frz.lg U7.frz:=⟨λ x q H=>by show U7.I x=_;rw[bh];exact H,⟨[],rfl⟩,bl⟩;refine⟨⟨⟨ra,rl,rc,sa,sl,sc⟩,[.obj it (J1 mb (Jr (K h.cl)).length seen),.obj mb (Qt QS (Jr (K h.cl))),.obj z (.cells [.slice ra rl rc,.slice sa sl sc].toArray 43 (0,0)),.obj N (.cells (ZU L).toArray 3 (0,0)),.obj V (.cells [.slice ra rl rc,.slice sa sl sc].toArray 90 (0,0))],rfl,⟨⟨ps,A,h1,λ p hp=>(h2 p hp).lg hz,h3,by rw[bi];simp⟩,E.rs.lg hz λ _ _ h=>h,E.rl,E.rn,E.rc⟩⟩,λ x q H=>by rw[bh];exact bv.imm x q (bn.imm x q H),bl.trans (bv.tok.trans bn.tok)⟩
  .have hql:q<(K h.cl).length:=by have:=(List.getElem?_eq_some_iff.1 hp).1;rwa [F7]at this
   rw[MR hql]at hp;cases hp;have c3:=Bk.kpt_lt (UR hql:(K h.cl).getD q 0∈Bk.kpt o.testBit h.cl);generalize ej:(K h.cl).getD q 0=kk at c3
   have cj:(seen.push q).toList.Nodup:=by
    rw[Array.toList_push,nodup_append];refine⟨em,S1,λ x H y hy=>?_⟩;rw[mem_singleton.1 hy];rintro rfl;exact en (by simpa using H)
   have bw:∀j∈(seen.push q).toList,j<(K h.cl).length:=by
    intro j hj;rw[Array.toList_push,mem_append]at hj;rcases hj with hj|hj
    .exact ch j hj
    .rw[mem_singleton.1 hj];exact hql
   have d8:(K h.cl).length-(seen.push q).size<(K h.cl).length-seen.size:=by
    have:=Hj cj bw;rw[Array.length_toList,Array.size_push]at this;rw[Array.size_push];omega
   have a2:=c7 ({ U6 with M:=Xp++.obj it (J1 mb (Jr (K h.cl)).length (seen.push q))::Yp }:Qa T) (.obj it (J1 mb (Jr (K h.cl)).length (seen.push q))) (λ _ _ h=>h) rfl rfl;have a7:U5.frz.lg ({ U6 with M:=Xp++.obj it (J1 mb (Jr (K h.cl)).length (seen.push q))::Yp }:Qa T):=⟨bk.imm,⟨_,(append_nil _).symm⟩,bk.tok⟩;generalize({ U6 with M:=Xp++.obj it (J1 mb (Jr (K h.cl)).length (seen.push q))::Yp }:Qa T)=U7 at a2 a7 ⊢;have be:U1.frz.lg U7:=⟨λ x q H=>a7.imm x q (an.imm x q H),⟨_,(append_nil _).symm⟩,a7.tok.trans an.tok⟩
   repeat refine⟨rfl,?_⟩
   conv=>whnf
   refine TW (b:=mb) (r:=it) (seen:=seen) (enc:=QS) (l:=Jr (K h.cl)) rfl (.inr (a2.mem _ S1)) (.inr (a2.mem _ S1)) (MR hql) ?_;rw[ej];refine⟨_,(hB.imI be.imm).sees3 (o:=1) rfl,Nat,λ k=>[(2,.pointer (some ⟨B,0,none⟩)),(4,.pointer (some ⟨V,0,none⟩)),(5,.slice (some ⟨N,0,none⟩) h.cl h.cl),(10,.pointer (some ⟨z,0,none⟩)),(11,.map (some mb)),(14,.int .i64 kk),(15,.int .i64 q),(122,.pointer (some ⟨it,0,none⟩)),(131,.int .i64 h.cl),(132,.int .i64 k)],
    λ k U'=>U7.frz.lg U'/\k<=h.cl/\QR U' ⟨ra,rl,rc,sa,sl,sc⟩ (Bk.mk b.rs (b.woL (K h.cl) λ p=>if p=q then Bk.afK o.testBit (L.getD kk 0) k else if p∈seen then G p else[])) (.obj it (J1 mb (Jr (K h.cl)).length (seen.push q))::J_ mb z N V (.slice ra rl rc) (.slice sa sl sc) (Jr (K h.cl)) L U.M),λ k=>h.cl-k,0,T1,⟨⟨λ _ _ h=>h,⟨_,(append_nil _).symm⟩,rfl⟩,O1,?_⟩,?_⟩
   .rw[Bk.woL_congr (b:=b) (g':=λ p=>if p∈seen then G p else[]) λ p hp=>?_]
    .exact a2
    .by_cases e:p=q
     .subst e;rw[if_pos rfl,if_neg en];rfl
     .rw[if_neg e]
   rintro k f U8⟨ah,hk,Y⟩;have ak:Ze ((k:Int)+1):=I1
   have f0:U1.frz.lg U8:=⟨λ x q H=>ah.imm x q (be.imm x q H),⟨_,(append_nil _).symm⟩,ah.tok.trans be.tok⟩
   repeat refine⟨rfl,?_⟩
   conv=>whnf
   apply Qd<;>intro hc
   .have hkt:k<h.cl:=by simpa using hc
    cases a1:o.testBit k with
    |true=>
     have c4:lk ((k:Nat):Int) (Jr (K h.cl))=none:=sT λ hm=>by
      have:=(Bk.kpt_lt hm).2;rw[a1]at this;cases this
     conv=>whnf
     refine Tm (b:=mb) (k:=((k:Nat):Int)) (l:=Jr (K h.cl)) Vf KG Gb rfl rfl (.inr (Y.mem _ S1)) ?_;rw[c4];refine⟨ak,?_⟩
     conv=>whnf
     exact⟨rfl,k+1,T1,⟨ah,O1,by rw[Bk.afK_out a1];exact Y⟩,L1⟩
    |false=>
     obtain⟨e3,f2⟩:=df (f:=o.testBit) hkt a1
     have c4:lk ((k:Nat):Int) (Jr (K h.cl))=some (.int .i64 ((K k).length:Nat)):=by
      have:=uZ fj e3
      rwa [show(K h.cl).getD (Bk.kpt o.testBit k).length 0=k from f2]at this
     have a4:=Gi (bq kk) (show k<60 by omega)
     have e6:U8.sees ((Addr.mk N 0 none).add (kk*1)) (.int .i64 (L.getD kk 0:Nat)):=by
      rw[Nat.mul_one];exact J2 (b:=N) (e:=3) (vs:=ZU L) (Y.mem _ S1) kk _ (Na (by rw[bm.len];exact c3.1))
     have az:=Bk.afK_in (out:=o.testBit) (w:=L.getD kk 0) (j:=k) a1
     conv=>whnf
     refine Tm (b:=mb) (k:=((k:Nat):Int)) (l:=Jr (K h.cl)) Vf KG Gb rfl rfl (.inr (Y.mem _ S1)) ?_;rw[c4];refine⟨⟨N,0,none⟩,kk,⟨rfl,rfl,c3.1⟩,_,e6,O1,?_⟩
     repeat refine⟨rfl,?_⟩
     conv=>whnf
     apply Qd<;>intro hc
     .have hb1:(L.getD kk 0).testBit k=true:=a4.symm.trans hc;rw[hb1,if_pos rfl]at az
      have e4:q<(Bk.mk b.rs (b.woL (K h.cl) λ p=>if p=q then Bk.afK o.testBit (L.getD kk 0) k else if p∈seen then G p else[])).cs.length:=by
       show q<(b.woL _ _).length;rw[Bk.woL_len];exact hql
      have fq:(Bk.mk b.rs (b.woL (K h.cl) λ p=>if p=q then Bk.afK o.testBit (L.getD kk 0) k else if p∈seen then G p else[])).cas q={ b.cas ((K h.cl).getD q 0)with af:=Bk.afK o.testBit (L.getD kk 0) k }:=by
       rw[Bk.cas_at (Bk.woL_at hql),if_pos rfl]
      obtain⟨a0,l0,c0,kF,cb,cc,rest,au⟩:=Y.openC e4;have bs:=au.acc;rw[fq]at bs;have g8:=au.acc.src;have fy:=Bk.afK_len (out:=o.testBit) (L.getD kk 0) k
      let bd:=rest++(.obj it (J1 mb (Jr (K h.cl)).length (seen.push q))::J_ mb z N V (.slice ra rl rc) (.slice sa sl sc) (Jr (K h.cl)) L U.M)
      let Us:Qa T:={ U8 with M:=kF++(.obj cb (.cells cc.toList.toArray 48 (0,0))::bd) }
      let Ub:Qa T:={ U8 with M:=.obj cb (.cells cc.toList.toArray 48 (0,0))::bd }
      have d2:Ub.lg Us:=⟨λ _ _ h=>h,⟨kF,rfl⟩,rfl⟩;have g5:(some ⟨cb,0,none⟩:Option Addr)=sa:=au.ca.symm;have e5:q<sl:=au.lt;have bx:Z6 Ub ⟨z,0,none⟩ [.slice ra rl rc,.slice sa sl sc]:=J2 (e:=43) (by show _∈_::bd;simp[bd])
      have f3:Ub.sees (((Addr.mk cb 0 none).add (q*4)).add 3) (.slice a0 l0 c0):=by
       have:=J2 (U:=Ub) (b:=cb) (e:=48) (vs:=cc.toList) (by show _∈_::bd;simp) (q*4+3) _ au.at3;rw[Qp]at this;rw[Qp,Qp,Nat.add_assoc];exact this
      conv=>whnf
      intro g3 bu;refine sI (HB au.pm) ?_
      refine My (mu:=[1039]) (ops:=Pw Tryz.f40 39) (id:=39) (U:=Us) bu Ub d2 [10,11] [[0,1,2,3,4,5,6,7,8,9,10,11]] [12,13,14] FY R4 Qe K1 K1 K1 K1 K1
       (λ f' db U'=>db=[]/\∃(va:Option Addr)(vl vc:Nat)(F':List Qw),XS f' [(2,.pointer (some ⟨B,0,none⟩)),(4,.pointer (some ⟨V,0,none⟩)),(5,.slice (some ⟨N,0,none⟩) h.cl h.cl),(10,.pointer (some ⟨z,0,none⟩)),(11,.map (some mb)),(14,.int .i64 kk),(15,.int .i64 q),(122,.pointer (some ⟨it,0,none⟩)),(131,.int .i64 h.cl),(132,.int .i64 k),(153,.slice sa sl sc),(154,.int .i64 q),(163,.slice va vl vc)]/\Jx 3 1 (.slice va vl vc) ((Bk.afK o.testBit (L.getD kk 0) (k+1)).map λ n=>.int .i64 n) F'/\U8.frz.lg U'/\U'.M=F'++(.obj cb (.cells cc.toList.toArray 48 (0,0))::bd)) ?_ ?_
      .intro l hl;simp only[FY,mem_cons,not_mem_nil,or_false]at hl;subst hl;refine⟨_,bx.cell (i:=1) rfl,_,bx.cell (i:=1) rfl,⟨cb,0,none⟩,q,⟨au.ca,rfl,e5⟩,_,f3,λ v U'=>∃ae,v=.slice (some ⟨ae,0,none⟩) 1 1/\Zf U' ae #[.int .i64 ((K k).length:Nat)]/\Us.le U',λ v U1 U2⟨ae,e1,hb,hl⟩am=>⟨ae,e1,hb.le am,hl.trans am⟩,λ v U'⟨ae,e1,hb,hl⟩=>d2.trans hl.lg,λ U' hC=>?_,λ v hv=>?_⟩
       .have am:=hC
        conv=>whnf
        intro ae c2;exact Zl c2 λ U3 aq hb=>⟨U3,.refl _,ae,rfl,hb,Qa.le.trans am aq⟩
       obtain⟨_,ae,rfl,-⟩:=hv;refine⟨λ v U'=>∃(F':List Qw),(∃va vl vc,v=.slice va vl vc)/\Jx 3 1 v ((Bk.afK o.testBit (L.getD kk 0) (k+1)).map λ n=>.int .i64 n) F'/\U8.frz.lg U'/\U'.M=F'++(.obj cb (.cells cc.toList.toArray 48 (0,0))::bd),λ v U1 U2⟨F',hs,h1,h2,h3⟩am=>⟨F',hs,h1,h2.trans am.lg,am.own.trans h3⟩,λ v U'⟨F',hs,h1,h2,h3⟩=>⟨h2.imm,⟨F',h3⟩,h2.tok⟩,λ U' hC=>?_,λ v hv=>?_⟩
       .obtain⟨b162',e1,hb162,am⟩:=hC;cases e1
        conv=>whnf
        refine Wy (v:=.slice a0 l0 c0) (cs:=(Bk.afK o.testBit (L.getD kk 0) k).map λ n=>.int .i64 n) (new:=[.int .i64 ((K k).length:Nat)]) (M₀:=.obj cb (.cells cc.toList.toArray 48 (0,0))::bd) HA rfl rfl (by rw[am.own];exact bs _) (.inr ⟨_,rfl,hb162.rd⟩) rfl (by simp[Value.single]) (by rw[length_map,length_cons,length_nil];omega) λ v' M' cx _=>?_;obtain⟨F',cq,b2⟩:=cx.split;refine⟨_,.refl _,F',?_,by rw[az];simpa using b2,⟨λ x q H=>am.imm x q H,⟨_,(append_nil _).symm⟩,am.tok⟩,cq⟩;obtain⟨ta,tl,tc,e2,-⟩:=b2.src;exact⟨ta,tl,tc,e2⟩
       obtain⟨_,F',⟨va,vl,vc,rfl⟩,-⟩:=hv
       conv=>whnf
       rintro U'⟨fg,-,h1,h2,h3⟩;exact⟨rfl,va,vl,vc,fg,T1,h1,h2,h3⟩
      rintro f' db U9⟨rfl,va,vl,vc,F',ec,b2,fx,fk⟩;rw[<- ec.ovr];clear ec;refine⟨⟨cb,0,none⟩,q,⟨au.ca,rfl,e5⟩,rfl,?_⟩;rw[show((Addr.mk cb 0 none).add (q*4)).add 3=(Addr.mk cb 0 none).add (q*4+3) by rw[Qp,Qp,Qp,Nat.add_assoc]];refine WQ (i:=q*4+3) (v:=.slice va vl vc) F' fk (by simpa using au.sz) rfl λ Ua cp c8 ct=>?_;have b0:U8.frz.lg Ua.frz:=fx.frz2.trans ⟨λ x q H=>by show Ua.I x=_;rw[cp];exact H,⟨[],rfl⟩,c8⟩;have fz:=Bk.afK_len (out:=o.testBit) (L.getD kk 0) (k+1);have bf:=au.back Ua (.slice va vl vc) F' (Bk.afK o.testBit (L.getD kk 0) (k+1)) (.obj it (J1 mb (Jr (K h.cl)).length (seen.push q))::J_ mb z N V (.slice ra rl rc) (.slice sa sl sc) (Jr (K h.cl)) L U.M) b0 b2 O1 (by rw[ct]);rw[Bk.woL_set hql]at bf;rw[Bk.woL_congr (b:=b) (g':=λ p=>if p=q then Bk.afK o.testBit (L.getD kk 0) (k+1)else if p∈seen then G p else[]) λ p _=>by by_cases e:p=q <;> simp[e]]at bf
      conv=>whnf
      intro a' b3;refine⟨by rw[b3.size,bu.size],_,b3.get,?_⟩;rw[b3.ds];clear b3 bu;refine⟨ak,?_⟩
      conv=>whnf
      exact⟨rfl,k+1,T1,⟨⟨λ x q H=>b0.imm x q (ah.imm x q H),⟨_,(append_nil _).symm⟩,b0.tok.trans ah.tok⟩,O1,bf⟩,L1⟩
     .have hb1:(L.getD kk 0).testBit k=false:=a4.symm.trans hc;rw[hb1,if_neg S1,append_nil]at az;refine⟨ak,?_⟩
      conv=>whnf
      exact⟨rfl,k+1,T1,⟨ah,O1,by rw[az];exact Y⟩,L1⟩
   .have aj:k=h.cl:=by simp at hc;omega
    subst aj;rw[Bk.woL_congr (b:=b) (g':=λ p=>if p∈seen.push q then G p else[]) λ p hp=>?_]at Y
    .conv=>whnf
     exact⟨rfl,seen.push q,T1,⟨⟨λ x q H=>ah.imm x q (a7.imm x q H),⟨_,(append_nil _).symm⟩,ah.tok.trans a7.tok⟩,Y,cj,bw⟩,d8⟩
    .by_cases e:p=q
     .subst e;rw[if_pos rfl,if_pos S1];show _=Bk.afK o.testBit (L.getD ((K h.cl).getD p 0) 0) h.cl;rw[ej]
     .rw[if_neg e];by_cases hs:p∈seen
      .rw[if_pos hs,if_pos (by simp[hs])]
      .rw[if_neg hs,if_neg (by simp[hs,e])]
 refine ff.okv λ v U' hw⟨⟨h',Z,hv,es⟩,hI,ht⟩=>?_
 have ek:(b.wo o.testBit).cs.length<=1000:=by
  show((b.kept o.testBit).map _).length<=_;rw[length_map];exact Nat.le_trans (Bk.kpt_len (out:=o.testBit) b.cs.length) O1
 obtain⟨U'',k1,k2,k3,k4⟩:=es.freeze hw ek;exact⟨{ U'' with M:=U.M },k1.trans (Z5 (by rw[k2];exact sublist_append_right ..)),⟨h',hv,k4,es.rc⟩,⟨λ x q H=>k3.imm x q (hI x q H),rfl,k3.tok.trans ht⟩⟩
end Go.Proofs
namespace Go.TM
variable{T:Type}{P:Program}{S:Sys P T}{U U':Qa T}
def WT(x:List Int):Nat:=Jb (x.map Int.toNat)
def Bk.every(b:Bk):List Int:=(range b.cs.length).map λ(k:Nat)=>(k:Int)
def Bk.wdP(b:Bk)(r:Nat)(x:List Int):Bool:=(b.wo (WT x).testBit).fatR r==1
def Bk.wdL(b:Bk)(r:Nat):List Int:=(WP b.every (b.wdP r) 0 (b.cs.length+1)).getD []
def Bk.wdF(b:Bk)(r:Int):List Int:=if b.askF r=0 then b.wdL r.toNat else[]
def F4{b:Bk}(h:b.cs.length<=5){q:List Int}(w:q.Sublist b.every):(∀n∈q,0<=n/\n<60)/\q.length<=5/\WT q<2^60:=by
 have e:∀n∈q,0<=n/\n<60:=λ n z=>by
  have:=w.subset z;simp only[Bk.every,mem_map,mem_range]at this;obtain⟨k,B,rfl⟩:=this;omega
 refine⟨e,?_,HF (toNat_lt e)⟩;have:=w.length_le;simp[Bk.every]at this;omega
end Go.TM
namespace Go.Proofs
open Go.TM
variable{T:Type}{S:TM.Sys prog T}{U:Qa T}
attribute [local irreducible] Qb Zh Wh
def xP(h:BH)(b:Bk)(N:Zp U.frz h b)(G:b.Ok)(r:Nat)(hr:r<b.rs.length){b6 Z:Nat}(F:Zf U b6 #[.slice h.ra h.rl h.rc,.slice h.ca h.cl h.cc])(E:Zf U Z #[.int .i64 r]) :
  Dg S 39 #[] #[.pointer (some ⟨b6,0,none⟩),.pointer (some ⟨Z,0,none⟩)] (b.wdP r) b.every U:=by
 rintro q a cap Y hq⟨X,W,hI,rfl⟩K;obtain⟨V,q5,qo⟩:=F4 G.nc hq;have B:U.lg (⟨W,X++U.M,U.tok⟩:Qa T):=⟨hI,⟨X,rfl⟩,rfl⟩;generalize(⟨W,X++U.M,U.tok⟩:Qa T)=Y at K B;refine Qb.pure' (Qb.of (args:=[_,_,_]) Eg Qe S1 ?_);have F:=F.lg B;have E:=E.lg B;refine⟨_,⟨rfl,F.rd⟩,?_⟩;refine⟨.int .i64 (WT q:Nat),λ U' w _=>?_,?_⟩
 .refine⟨Hb.any,(Je a q.length cap q (K.lg (Qm.trans w.lg)) O1 V).mono ?_⟩;rintro _ U''⟨rfl,hU⟩-;exact⟨rfl,_,.refl _,hU▸.refl _⟩
 refine⟨_,E.sees3 (o:=0) rfl,λ v U'=>∃z:BH,v=z.v/\Zp U'.frz z (b.wo (WT q).testBit),λ v Y U2⟨z,e,N⟩w=>⟨z,e,N.lg w.lg.frz2⟩,λ U' w _=>?_,λ v hv=>?_⟩
 .refine⟨SD.any,(Fy h b (N.lg (B.frz2.trans w.lg.frz2)) G (WT q) qo).mono ?_⟩;rintro v U''⟨⟨z,e,P,-⟩,I⟩-;exact⟨U'',.refl _,⟨z,e,P⟩,I⟩
 obtain⟨_,-,-,z,rfl,-⟩:=hv
 conv=>whnf
 intro U2 L hC;obtain⟨-,H,e,Q⟩:=hC;have e':=Value.agg.inj e
 obtain rfl:z=H:=by
  obtain⟨x1,x2,x3,x4,x5,x6⟩:=z;obtain⟨y1,y2,y3,y4,y5,y6⟩:=H;simp at e';simp[e']
 refine⟨GM.any,(V_ z _ Q (G.wo _) r hr).go λ _=>?_⟩
 repeat refine⟨rfl,?_⟩
 conv=>whnf
 exact L.lg
def Ct(h:BH)(b:Bk)(Z:Zp U.frz h b)(hk:WC U)(r:Int):Qb S 11 #[h.v,.int .i64 r] (λ v U'=>(∃F,v=.tuple #[F,.int .i64 (b.askF r)]/\JY U'.frz F (b.wdF r))/\U.le U') U:=by
 refine Qb.grown (R:=λ v U'=>∃F,v=.tuple #[F,.int .i64 (b.askF r)]/\JY U' F (b.wdF r)) (λ v X Y hl⟨F,e,h1⟩=>⟨F,e,h1.lg hl⟩) (Qb.of (args:=[_,_]) E8 Qe S1 ?_);have T:=Z.cs.1
 repeat refine⟨rfl,?_⟩
 conv=>whnf
 intro B X aa L;have L:Zf X B #[.slice h.ra h.rl h.rc,.slice h.ca h.cl h.cc]:=L
 conv=>whnf
 intro b3 Y Q E;have E:Zf Y b3 #[.int .i64 r]:=E;have L:=L.le Q;have z:=aa.trans Q;refine⟨_,⟨rfl,L.rd⟩,?_⟩;refine⟨_,E.sees3 (o:=0) rfl,Vd.any,(K6 h b (Z.lg z.lg.frz2) (hk.lg z.lg) r).go λ _=>?_⟩
 conv=>whnf
 intro b6 V;refine⟨_,.refl _,?_⟩;by_cases M:b.askF r=0
 .obtain⟨hok,hr0,hr1⟩:=Bk.askF_ok M;obtain⟨q,rfl⟩:=Int.eq_ofNat_of_zero_le hr0;have hq:q<b.rs.length:=by unfold Bk.nr at hr1;omega
  have ae:=hok.nc;have P:b.wdF (q:Int)=b.wdL q:=by unfold Bk.wdF;rw[if_pos M,Int.toNat_natCast]
  rw[if_pos M,M,P];refine⟨rfl,Zu (vs:=[.slice h.ra h.rl h.rc,.slice h.ca h.cl h.cc]) V rfl (by simp[Value.single]) λ U3 G H=>?_⟩;have H:Zf U3 b6 #[.slice h.ra h.rl h.rc,.slice h.ca h.cl h.cc]:=H;have E:=E.le G;have L:=L.le G;have K:=z.trans G
  repeat refine⟨rfl,?_⟩
  refine⟨_,⟨rfl,H.rd⟩,?_⟩;refine⟨_,L.sees3 (o:=1) rfl,λ v U'=>J0 U'.frz v b.every,λ v X Y W w=>W.lg w.lg.frz2,λ U' w _=>?_,λ v N=>?_⟩
  .refine⟨SC.any,(FK h b (Z.lg (K.lg.frz2.trans w.lg.frz2)) O1).mono ?_⟩;rintro v U''⟨N,I⟩-;exact⟨U'',.refl _,N,I⟩
  obtain⟨_,-,-,ea,ec,rfl,-⟩:=N;have ac:b.every.length=h.cl:=by simp[Bk.every,T]
  refine⟨λ v U'=>∃F,v=.tuple #[F,.bool (WP b.every (b.wdP q) 0 (b.cs.length+1)).isSome]/\JY U'.frz F (b.wdL q),λ v X Y⟨F,e,W⟩w=>⟨F,e,W.lg w.lg.frz2⟩,λ U' w hC=>?_,λ v N=>?_⟩
  .obtain⟨-,ea',ec',e1,hei⟩:=hC;cases e1;have hz:U3.frz.lg U'.frz:=w.lg.frz2;have hl:=FM (S:=S) (U:=U') b.every ea ec (I8 hei) (by rw[ac];omega) b.cs.length O1 39 #[] #[.pointer (some ⟨b6,0,none⟩),.pointer (some ⟨b3,0,none⟩)] Eg.any (b.wdP q) (xP h b (Z.lg (K.lg.frz2.trans hz)) hok q hq (H.le w) (E.le w))
   conv=>whnf
   rw[<- T];refine⟨SB.any,hl.mono ?_⟩;rintro v U''⟨N,I⟩-;exact⟨U'',.refl _,N,I⟩
  obtain⟨_,-,-,F,rfl,wa,wc,rfl,-⟩:=N
  conv=>whnf
  intro U4 ab hC;obtain⟨-,ad,e1,W⟩:=hC
  obtain⟨e2,-⟩:(Value.slice wa (b.wdL q).length wc=ad)/\True:=by
   have:=Value.tuple.inj e1;simp at this;exact⟨this,trivial⟩
  subst e2
  repeat refine⟨rfl,?_⟩
  conv=>whnf
  exact⟨⟨_,rfl,W⟩,(K.trans ab).lg⟩
 .have P:b.wdF r=[]:=by unfold Bk.wdF;rw[if_neg M]
  rw[if_neg M,P];refine⟨rfl,Zu (vs:=[.slice none 0 0,.slice none 0 0]) V rfl (by simp[Value.single]) λ U3 G H=>?_⟩
  repeat refine⟨rfl,?_⟩
  conv=>whnf
  apply Qd<;>intro hc
  .repeat refine⟨rfl,?_⟩
   conv=>whnf
   exact⟨⟨_,rfl,.nil⟩,(z.trans G).lg⟩
  .exact absurd (by simpa using hc) M
def Cz(h:BH)(b:Bk)(E:Zp U.frz h b)(F:WC U)(r:Int):Qb S 11 #[h.v,.int .i64 r] (λ v U'=>(∃w,v=.tuple #[w,.int .i64 (b.askF r)]/\J0 U'.frz w (b.wdF r))/\U.le U') U:=
 (Ct h b E F r).mono λ v U'⟨⟨w,e,z⟩,B⟩=>⟨⟨w,e,z.v⟩,B⟩
end Go.Proofs
namespace Go.TM
variable{T:Type}{P:Program}{S:Sys P T}{U U':Qa T}
def Bk.dcS(b:Bk)(r d:Nat):Int:=(b.wo d.testBit).fatR r
def Bk.dcP(b:Bk)(r:Nat)(x:List Int):Bool:=(range (2^b.cs.length)).all λ d=>!(d&&&WT x==0&&b.dcS r d != b.dcS r 0)
def Bk.dcL(b:Bk)(r:Nat):List Int:=(WP b.every (b.dcP r) 0 (b.cs.length+1)).getD []
def Bk.dcF(b:Bk)(r:Int):List Int:=if b.askF r=0 then b.dcL r.toNat else[]
def Bk.dcM(b:Bk)(r m:Nat):List (Int×Value):=JI m (λ d=>(d:Nat)) λ d=>.int .i64 (b.dcS r d)
def Bk.dcM_succ(b:Bk)(r m:Nat):ZC ((m:Nat):Int) (.int .i64 (b.dcS r m)) (b.dcM r m)=b.dcM r (m+1):=by
 unfold Bk.dcM
 rw[(T7 (m:=m) (k:=((m:Nat):Int)) (ky:=λ d=>(d:Nat)) (vl:=λ d=>.int .i64 (b.dcS r d)) λ q h e=>by
  have:=Int.ofNat.inj e;omega).2,DL]
def Bk.dcM_at(b:Bk){r m d:Nat}(h:d<m):lk ((d:Nat):Int) (b.dcM r m)=some (.int .i64 (b.dcS r d)):=
 N8 (m:=m) (ky:=λ d=>((d:Nat):Int)) (vl:=λ d=>.int .i64 (b.dcS r d)) h λ q r _ _ e=>Int.ofNat.inj e
def Bk.dcM_len(b:Bk)(r m:Nat):(b.dcM r m).length=m:=Fh _ _ _
def Bk.dcM_get(b:Bk){r m d:Nat}(h:d<m):(b.dcM r m)[d]?=some (((d:Nat):Int),.int .i64 (b.dcS r d)):=OS h
def Fi{n:Nat}(h:n<=5):2^n<=32:=by
 have:=Nat.pow_le_pow_right (show 0<2 by omega) h;simpa using this
end Go.TM
namespace Go.Proofs
open Go.TM
variable{T:Type}{S:TM.Sys prog T}{U:Qa T}
attribute [local irreducible] Qb Zh Wh
def BG(b:Bk)(ag:b.cs.length<=5)(r:Nat){b8 mb:Nat}(L:Zf U b8 #[.map (some mb)])(hm:U.has mb (Qt QS (b.dcM r (2^b.cs.length)))) :
  Dg S 60 #[] #[.pointer (some ⟨b8,0,none⟩)] (b.dcP r) b.every U:=by
 rintro q a cap E hq⟨X,I',hI,rfl⟩ai;obtain⟨am,q5,qo⟩:=F4 ag hq;have ac:U.lg (⟨I',X++U.M,U.tok⟩:Qa T):=⟨hI,⟨X,rfl⟩,rfl⟩;have hm:(⟨I',X++U.M,U.tok⟩:Qa T).has mb (Qt QS (b.dcM r (2^b.cs.length))):=hm.imp (hI _ _) λ h=>mem_append_right _ h;generalize(⟨I',X++U.M,U.tok⟩:Qa T)=E at ai ac hm;have ao:=Fi ag;have ah:0<2^b.cs.length:=Nat.two_pow_pos _;refine Qb.pure' (Qb.of (args:=[_,_]) En Qe S1 ?_);have L:=L.lg ac;refine⟨_,L.sees3 (o:=0) rfl,?_⟩
 conv=>whnf
 refine TX (b:=mb) (enc:=QS) (l:=b.dcM r (2^b.cs.length)) TY rfl hm λ it an=>?_;rw[Bk.dcM_len];have aj:=Z2 (U:=E) it (J1 mb (2^b.cs.length) #[])
 refine⟨Array Nat,λ _=>[(0,.slice a q.length cap),(1,.pointer (some ⟨b8,0,none⟩)),(7,.pointer (some ⟨it,0,none⟩))],
  λ seen U'=>E.frz.lg U'/\U'.M=.obj it (J1 mb (2^b.cs.length) seen)::E.M/\seen.toList.Nodup/\(∀i∈seen.toList,i<2^b.cs.length)/\∀i∈seen,(!(i&&&WT q==0&&b.dcS r i != b.dcS r 0))=true,λ seen=>2^b.cs.length-seen.size,#[],T1,⟨Qm.trans aj,rfl,S1,S1,S1⟩,?_⟩
 rintro seen f U2⟨z,hM,ak,ad,G⟩;have ae:∀U':Qa T,(∀x o,E.I x=some o->U'.I x=some o)->(∀r∈E.M,r∈U'.M)->U'.has mb (Qt QS (b.dcM r (2^b.cs.length))):=λ U' Y h2=>hm.imp (Y _ _) (h2 _);have H:∀s,J1 mb (2^b.cs.length) s=J1 mb (b.dcM r (2^b.cs.length)).length s:=λ s=>by rw[Bk.dcM_len]
 conv=>whnf
 refine Dc (b:=mb) (r:=it) (seen:=seen) (enc:=QS) (l:=b.dcM r (2^b.cs.length)) (λ o=>.obj it o::E.M) rfl (ae _ z.imm λ r hr=>by rw[hM];exact mem_cons_of_mem _ hr) (λ o=>by rw[hM,H];exact .here) (λ Z=>?_) (λ d p hp al=>?_)
 .have hP:b.dcP r q=true:=by
   unfold Bk.dcP;rw[all_eq_true];intro d hd;rw[mem_range]at hd;exact G d (Z d (by rw[Bk.dcM_len];exact hd))
  rw[hP]
  repeat refine⟨rfl,?_⟩
  conv=>whnf
  exact⟨z.imm,⟨[_],hM⟩,z.tok⟩
 .have hdl:d<2^b.cs.length:=by have:=(List.getElem?_eq_some_iff.1 hp).1;rwa [Bk.dcM_len]at this
  rw[b.dcM_get hdl]at hp;cases hp;have ab:d<2^60:=Nat.lt_of_lt_of_le (by omega:d<32) D1
  have K:(seen.push d).toList.Nodup:=by
   rw[Array.toList_push,nodup_append];refine⟨ak,S1,λ x hx y hy=>?_⟩;rw[mem_singleton.1 hy];rintro rfl;exact al (by simpa using hx)
  have B:∀j∈(seen.push d).toList,j<2^b.cs.length:=by
   intro j W;rw[Array.toList_push,mem_append]at W;rcases W with W|W
   .exact ad j W
   .rw[mem_singleton.1 W];exact hdl
  have Q:2^b.cs.length-(seen.push d).size<2^b.cs.length-seen.size:=by
   have:=Hj K B;rw[Array.length_toList,Array.size_push]at this;rw[Array.size_push];omega
  have e:E.frz.lg ({ U2 with M:=.obj it (J1 mb (b.dcM r (2^b.cs.length)).length (seen.push d))::E.M }:Qa T):=⟨z.imm,⟨_,(append_nil _).symm⟩,z.tok⟩;have F:({ U2 with M:=.obj it (J1 mb (b.dcM r (2^b.cs.length)).length (seen.push d))::E.M }:Qa T).M=.obj it (J1 mb (2^b.cs.length) (seen.push d))::E.M:=by rw[H]
  generalize({ U2 with M:=.obj it (J1 mb (b.dcM r (2^b.cs.length)).length (seen.push d))::E.M }:Qa T)=U3 at e F ⊢;have af:=ae U3 e.imm λ r hr=>by rw[F];exact mem_cons_of_mem _ hr
  have aa:=L.imI e.imm;have V:E.lg U3:=⟨e.imm,⟨[_],F⟩,e.tok⟩
  have w:∀h:(!(d&&&WT q==0&&b.dcS r d != b.dcS r 0))=true,∀i∈seen.push d,(!(i&&&WT q==0&&b.dcS r i != b.dcS r 0))=true:=λ h i hi=>by
   rcases Array.mem_push.1 hi with hi|rfl
   .exact G i hi
   .exact h
  have P:(d&&&WT q==0&&b.dcS r d != b.dcS r 0)=true->b.dcP r q=false:=λ h=>by
   cases hh:b.dcP r q with
   |false=>rfl
   |true=>
    unfold Bk.dcP at hh;rw[all_eq_true]at hh;have:=hh d (by simpa using hdl);rw[h]at this;cases this
  repeat refine⟨rfl,?_⟩
  conv=>whnf
  refine TW (b:=mb) (r:=it) (seen:=seen) (enc:=QS) (l:=b.dcM r (2^b.cs.length)) rfl af (.inr (by rw[F,H];exact mem_cons_self ..)) (b.dcM_get hdl) ?_;refine⟨Hb.any,(Je a q.length cap q (ai.lg e) O1 am).go λ _=>?_⟩;have hand:=Dr ab qo
  have N:((IntKind.wrap .i64 ((BitVec.ofInt 64 ((d:Nat):Int)&&&BitVec.ofInt 64 ((WT q:Nat):Int)).toNat:Int))==0)=(d&&&WT q==0):=by
   rw[hand,Bool.eq_iff_iff,beq_iff_eq,beq_iff_eq];omega
  repeat refine⟨rfl,?_⟩
  conv=>whnf
  apply Q7<;>intro hc
  .have Y:(d&&&WT q==0)=true:=N.symm.trans hc;rw[Y,Bool.true_and]at P w;refine⟨_,aa.sees3 (o:=0) rfl,?_⟩
   conv=>whnf
   refine TG (b:=mb) (k:=((0:Nat):Int)) (l:=b.dcM r (2^b.cs.length)) Vf TY sA rfl rfl af ?_;rw[b.dcM_at ah,Option.getD_some]
   repeat refine⟨rfl,?_⟩
   conv=>whnf
   apply Qd<;>intro hc
   .rw[P hc]
    repeat refine⟨rfl,?_⟩
    conv=>whnf
    exact V
   .have hc':(b.dcS r d != b.dcS r 0)=false:=hc;rw[hc']at w
    conv=>whnf
    exact⟨rfl,seen.push d,T1,⟨e,F,K,B,w rfl⟩,Q⟩
  .have Y:(d&&&WT q==0)=false:=N.symm.trans hc;rw[Y,Bool.false_and]at w
   conv=>whnf
   exact⟨rfl,seen.push d,T1,⟨e,F,K,B,w rfl⟩,Q⟩
def qT(h:BH)(b:Bk)(hb:Zp U.frz h b)(hk:WC U)(r:Int):Qb S 23 #[h.v,.int .i64 r] (λ v U'=>(∃K,v=.tuple #[K,.int .i64 (b.askF r)]/\JY U'.frz K (b.dcF r))/\U.le U') U:=by
 refine Qb.grown (R:=λ v U'=>∃K,v=.tuple #[K,.int .i64 (b.askF r)]/\JY U' K (b.dcF r)) (λ v U1 Y hl⟨K,e,h1⟩=>⟨K,e,h1.lg hl⟩) (Qb.of (args:=[_,_]) Sx Qe S1 ?_);have ab:=hb.cs.1
 repeat refine⟨rfl,?_⟩
 conv=>whnf
 intro B U1 Q hB;have hB:Zf U1 B #[.slice h.ra h.rl h.rc,.slice h.ca h.cl h.cc]:=hB;refine⟨_,⟨rfl,hB.rd⟩,?_⟩;refine⟨Vd.any,(K6 h b (hb.lg Q.lg.frz2) (hk.lg Q.lg) r).go λ _=>?_⟩
 conv=>whnf
 intro b6 ad;refine⟨_,.refl _,?_⟩;by_cases hF:b.askF r=0
 .obtain⟨hok,hr0,hr1⟩:=Bk.askF_ok hF;obtain⟨q,rfl⟩:=Int.eq_ofNat_of_zero_le hr0;have hq:q<b.rs.length:=by unfold Bk.nr at hr1;omega
  have ah:=hok.nc;have ap:=Fi ah;have ac:b.dcF (q:Int)=b.dcL q:=by unfold Bk.dcF;rw[if_pos hF,Int.toNat_natCast]
  rw[if_pos hF,hF,ac];refine⟨rfl,Zu (vs:=[.slice h.ra h.rl h.rc,.slice h.ca h.cl h.cc]) ad rfl (by simp[Value.single]) λ Y af T=>?_⟩;have T:Zf Y b6 #[.slice h.ra h.rl h.rc,.slice h.ca h.cl h.cc]:=T;have hB:=hB.le af;have F:=Q.trans af
  repeat refine⟨rfl,?_⟩
  conv=>whnf
  refine PH QS λ mb an=>?_
  conv=>whnf
  intro b8 ag;refine⟨_,.refl _,rfl,Zu (vs:=[.map (some mb)]) ag rfl (by simp[Value.single]) λ U3 H ak=>?_⟩
  have ae:U3.M=.obj mb (Qt QS (b.dcM q 0))::U.M:=by
   rw[H.own];show _::Y.M=_;rw[F.own];rfl
  have G:Y.frz.lg U3:=⟨λ x o X=>H.imm x o X,⟨_,(append_nil _).symm⟩,H.tok⟩
  have e1:IntKind.wrap .i64 ((1:Int)*2^(min ((h.cl:Int).toNat) (IntKind.bits .i64)))=((2^b.cs.length:Nat):Int):=by
   rw[ab,<- Nat.one_shiftLeft];exact VU O1
  clear ad ag an H;refine⟨_,(hB.imI G.imm).sees3 (o:=1) rfl,O1,?_⟩;rw[e1]
  refine⟨Nat,λ m=>[(1,.int .i64 q),(2,.pointer (some ⟨B,0,none⟩)),(6,.pointer (some ⟨b6,0,none⟩)),(8,.pointer (some ⟨b8,0,none⟩)),(25,.int .i64 (2^b.cs.length:Nat)),(26,.int .i64 m)],
   λ m U'=>U3.frz.lg U'/\U'.M=.obj mb (Qt QS (b.dcM q m))::U.M/\m<=2^b.cs.length,λ m=>2^b.cs.length-m,0,T1,⟨⟨λ _ _ h=>h,⟨_,(append_nil _).symm⟩,rfl⟩,ae,Nat.zero_le _⟩,?_⟩
  rintro m f U4⟨N,hM,hm⟩;have am:Ze ((m:Int)+1):=I1
  have L:∀x o,Y.I x=some o->U4.I x=some o:=λ x o X=>N.imm x o (G.imm x o X);have Z:=T.imI L;have aa:=ak.imI N.imm;have V:U.frz.lg U4.frz:=⟨λ x o X=>L x o (F.imm x o X),⟨[],rfl⟩,N.tok.trans (G.tok.trans F.tok)⟩
  repeat refine⟨rfl,?_⟩
  conv=>whnf
  apply Qd<;>intro hc
  .have hlt:m<2^b.cs.length:=Int.ofNat_lt.1 (of_decide_eq_true hc);refine⟨_,aa.sees3 (o:=0) rfl,_,⟨rfl,Z.rd⟩,?_⟩;refine⟨λ v U'=>∃P:BH,v=P.v/\Zp U'.frz P (b.wo m.testBit),λ v U1 Y⟨P,e,hb⟩w=>⟨P,e,hb.lg w.lg.frz2⟩,λ U' w _=>?_,λ v W=>?_⟩
   .refine⟨SD.any,(Fy h b (hb.lg (V.trans w.lg.frz2)) hok m (Nat.lt_of_lt_of_le (by omega:m<32) D1)).mono ?_⟩;rintro v U''⟨⟨P,e,aj,-⟩,z⟩-;exact⟨U'',.refl _,⟨P,e,aj⟩,z⟩
   obtain⟨_,-,-,P,rfl,-⟩:=W;refine⟨.int .i64 (b.dcS q m),λ U' w hC=>?_,?_⟩
   .obtain⟨-,h'',e,hbw⟩:=hC;have e':=Value.agg.inj e
    obtain rfl:P=h'':=by
     obtain⟨x1,x2,x3,x4,x5,x6⟩:=P;obtain⟨y1,y2,y3,y4,y5,y6⟩:=h'';simp at e';simp[e']
    refine⟨GM.any,(V_ P _ hbw (hok.wo _) q hq).mono ?_⟩;rintro _ U''⟨rfl,hU⟩-;exact⟨rfl,_,.refl _,hU▸.refl _⟩
   conv=>whnf
   intro U5 E _
   conv=>whnf
   refine T4 (b:=mb) (k:=((m:Nat):Int)) (l:=b.dcM q m) (v:=.int .i64 (b.dcS q m)) (M':=.obj mb (Qt QS (b.dcM q (m+1)))::U.M) Vf TY rfl rfl rfl (by rw[E.own,hM,b.dcM_succ];exact .here) ?_;refine⟨am,?_⟩
   conv=>whnf
   exact⟨rfl,m+1,T1,⟨⟨λ x o X=>E.imm x o (N.imm x o X),⟨_,(append_nil _).symm⟩,E.tok.trans N.tok⟩,rfl,O1⟩,L1⟩
  .have hge:m=2^b.cs.length:=Nat.le_antisymm hm (Nat.le_of_not_lt λ h=>absurd (Int.ofNat_lt.2 h) (of_decide_eq_false hc));subst hge;have ai:=hB.imI L;refine⟨_,⟨rfl,Z.rd⟩,?_⟩;refine⟨_,ai.sees3 (o:=1) rfl,λ v U'=>J0 U'.frz v b.every,λ v U1 Y hi w=>hi.lg w.lg.frz2,λ U' w _=>?_,λ v W=>?_⟩
   .refine⟨SC.any,(FK h b (hb.lg (V.trans w.lg.frz2)) O1).mono ?_⟩;rintro v U''⟨W,z⟩-;exact⟨U'',.refl _,W,z⟩
   obtain⟨_,-,-,ea,ec,rfl,-⟩:=W;have al:b.every.length=h.cl:=by simp[Bk.every,ab]
   refine⟨λ v U'=>∃K,v=.tuple #[K,.bool (WP b.every (b.dcP q) 0 (b.cs.length+1)).isSome]/\JY U'.frz K (b.dcL q),λ v U1 Y⟨K,e,hi⟩w=>⟨K,e,hi.lg w.lg.frz2⟩,λ U' w hC=>?_,λ v W=>?_⟩
   .obtain⟨-,ea',ec',e1,hei⟩:=hC;cases e1;have hl:=FM (S:=S) (U:=U') b.every ea ec (I8 hei) (by rw[al];omega) b.cs.length O1 60 #[] #[.pointer (some ⟨b8,0,none⟩)] En.any (b.dcP q) (BG b ah q (aa.le w) (.inr (by rw[w.own,hM];exact mem_cons_self ..)))
    conv=>whnf
    rw[<- ab];refine⟨SB.any,hl.mono ?_⟩;rintro v U''⟨W,z⟩-;exact⟨U'',.refl _,W,z⟩
   obtain⟨_,-,-,K,rfl,wa,wc,rfl,-⟩:=W
   conv=>whnf
   intro U5 E hC;obtain⟨-,ao,e1,hi⟩:=hC
   obtain⟨e2,-⟩:(Value.slice wa (b.dcL q).length wc=ao)/\True:=by
    have:=Value.tuple.inj e1;simp at this;exact⟨this,trivial⟩
   subst e2
   repeat refine⟨rfl,?_⟩
   refine⟨⟨_,rfl,hi⟩,⟨λ x o X=>E.imm x o (V.imm x o X),⟨[_],E.own.trans hM⟩,E.tok.trans V.tok⟩⟩
 .have ac:b.dcF r=[]:=by unfold Bk.dcF;rw[if_neg hF]
  rw[if_neg hF,ac];refine⟨rfl,Zu (vs:=[.slice none 0 0,.slice none 0 0]) ad rfl (by simp[Value.single]) λ U3 H T=>?_⟩
  repeat refine⟨rfl,?_⟩
  conv=>whnf
  apply Qd<;>intro hc
  .repeat refine⟨rfl,?_⟩
   conv=>whnf
   exact⟨⟨_,rfl,.nil⟩,(Q.trans H).lg⟩
  .exact absurd (by simpa using hc) hF
def FB(h:BH)(b:Bk)(E:Zp U.frz h b)(F:WC U)(r:Int):Qb S 23 #[h.v,.int .i64 r] (λ v U'=>(∃w,v=.tuple #[w,.int .i64 (b.askF r)]/\J0 U'.frz w (b.dcF r))/\U.le U') U:=
 (qT h b E F r).mono λ v U'⟨⟨w,e,z⟩,B⟩=>⟨⟨w,e,z.v⟩,B⟩
end Go.Proofs
namespace Go.TM
variable{T:Type}{P:Program}{S:Sys P T}{U U':Qa T}
def MT{n:Int}:∀{l:List Int},l.Pairwise (· < ·)->n∉l->(ZD n l).Pairwise (· < ·)
 |[],_,_=>by simp[ZD]
 |y::l,h,z=>by
  obtain⟨w,B⟩:=pairwise_cons.1 h;unfold ZD;split
  .refine pairwise_cons.2 ⟨λ x b=>?_,MT B λ E=>z (by simp[E])⟩;rcases(Vl n x l).1 b with rfl|b
   .assumption
   .exact w x b
  .rename_i hge;have F:n≠y:=λ e=>z (by simp[e]);refine pairwise_cons.2 ⟨λ x b=>?_,h⟩;rcases mem_cons.1 b with rfl|b
   .omega
   .have:=w x b;omega
structure Bk.Ok1(b:Bk):Prop where
 nr:b.rs.length<=6
 nc:b.cs.length<=5
 ag:∀c∈b.cs,0<=c.ag/\c.ag<b.nr
 gl:∀c∈b.cs,c.gs.length<=3
 gs:∀c∈b.cs,∀g∈c.gs,g.length<=3/\∀n∈g,0<=n/\n<b.nr
 ri:∀c∈b.cs,c.af.Pairwise (· < ·)
 af:∀c∈b.cs,∀n∈c.af,0<=n/\n<b.nc
def Bk.Ok.ok1{b:Bk}(h:b.Ok):b.Ok1:=⟨h.nr,h.nc,h.ag,h.gl,h.gs,λ _ e=>(h.asc e).2,h.af⟩
def Bk.Ok1.ok{b:Bk}(h:b.Ok1)(z:Wp b.A=false):b.Ok:=
 ⟨h.nr,h.nc,h.ag,h.gl,h.gs,λ c w=>OD (h.ri c w) (h.af c w) (λ m e=>by cases e),h.af,z⟩
def Bk.Ok1.low{b:Bk}(h:b.Ok1):b.Low:=⟨h.nc,h.af⟩
structure Bk.Fr(b:Bk)(s:Int×Int):Prop where
 c0:0<=s.1
 cl:s.1.toNat<b.cs.length
 u0:0<=s.2
 ul:s.2<b.nc
 no:s.2∉(b.cas s.1.toNat).af
def Bk.sty_cs(b:Bk)(s:Int×Int){c:Cs}(h:c∈(b.sty s).cs):c∈b.cs\/c={ b.cas s.1.toNat with af:=ZD s.2 (b.cas s.1.toNat).af }:=mem_or_eq_of_mem_set h
def Bk.Ok1.sty{b:Bk}(h:b.Ok1){s:Int×Int}(B:b.Fr s):(b.sty s).Ok1:=by
 have w:=Bk.cas_mem B.cl;have z:(b.sty s).nc=b.nc:=by unfold Bk.nc;rw[b.sty_len]
 refine⟨h.nr,by rw[b.sty_len];exact h.nc,λ c e=>?_,λ c e=>?_,λ c e=>?_,λ c e=>?_,λ c e=>?_⟩ <;> rcases b.sty_cs s e with e|rfl
 .exact h.ag c e
 .exact h.ag (b.cas s.1.toNat) w
 .exact h.gl c e
 .exact h.gl (b.cas s.1.toNat) w
 .exact h.gs c e
 .exact h.gs (b.cas s.1.toNat) w
 .exact h.ri c e
 .exact MT (h.ri _ w) B.no
 .rw[z];exact h.af c e
 .rw[z];intro n E;rcases(Vl s.2 n _).1 E with rfl|E
  .exact⟨B.u0,B.ul⟩
  .exact h.af _ w n E
def Bk.Fr.sty{b:Bk}{s w:Int×Int}(E:b.Fr s)(h:b.Fr w)(B:w≠s):(b.sty s).Fr w:=by
 refine⟨h.c0,by rw[b.sty_len];exact h.cl,h.u0,by unfold Bk.nc;rw[b.sty_len];exact h.ul,?_⟩;by_cases e:s.1.toNat=w.1.toNat
 .have e2:w.1=s.1:=by have:=E.c0;have:=h.c0;omega
  have:(b.sty s).cas w.1.toNat={ b.cas s.1.toNat with af:=ZD s.2 (b.cas s.1.toNat).af }:=by
   refine Bk.cas_at ?_;show(b.cs.set s.1.toNat _)[w.1.toNat]?=_;rw[getElem?_set,if_pos e,if_pos E.cl]
  rw[this];intro z;rcases(Vl s.2 w.2 _).1 z with F|z
  .exact B (Prod.ext e2 F)
  .exact h.no (by rw[<- e];exact z)
 .have:(b.sty s).cas w.1.toNat=b.cas w.1.toNat:=by
   show(b.cs.set s.1.toNat _).getD w.1.toNat default=_;rw[getD_eq_getElem?_getD,getElem?_set,if_neg e,<- getD_eq_getElem?_getD];rfl
  rw[this];exact h.no
def Bk.Ok1.stys{b:Bk}(h:b.Ok1):∀{l:List (Int×Int)},(∀s∈l,b.Fr s)->l.Nodup->(b.stys l).Ok1:=by
 intro l
 induction l generalizing b with
 |nil=>exact λ _ _=>h
 |cons s l G=>
  intro z F;obtain⟨B,E⟩:=nodup_cons.1 F;exact G (b:=b.sty s) (h.sty (z s S1)) (λ H w=>(z s S1).sty (z H (by simp[w])) λ e=>B (e▸w)) E
def Bk.stys_rs(b:Bk)(l:List (Int×Int)):(b.stys l).rs=b.rs:=by
 induction l generalizing b with
 |nil=>rfl
 |cons s l e=>exact e (b.sty s)
def Bk.cans_fr{b:Bk}{s:Int×Int}(h:s∈b.cans):b.Fr s:=by
 simp only[Bk.cans,mem_flatMap,mem_range,mem_map,mem_filter,Bool.and_eq_true,Bool.not_eq_true',contains_eq_mem,decide_eq_false_iff_not]at h;obtain⟨i,w,k,⟨z,-,e⟩,rfl⟩:=h;exact⟨S1,by simpa using w,S1,by unfold Bk.nc;simp only;omega,by simpa using e⟩
def Bk.good(b:Bk)(r:Nat)(w:Int)(l:List (Int×Int)):Bool:=!Wp (b.stys l).A&&(b.stys l).fatR r==w
end Go.TM
namespace Go.Proofs
open Go.TM
variable{T:Type}{S:TM.Sys prog T}{U:Qa T}
attribute [local irreducible] Qb Zh Wh
def qJ(h:BH)(b:Bk)(H:Zp U.frz h b)(e:b.Ok)(l:List (Int×Int))(a:Option Addr)(c:Nat)(I:Qy U a l.length 2 l (λ x vs=>vs=encII x))(z:l.length<=6)(w:∀s∈l,b.Fr s) :
  Qb S 90 #[h.v,.slice a l.length c] (λ v U'=>(∃B:BH,v=B.v/\Zp U'.frz B (b.stys l))/\U.le U') U:=by
 have K:=e.nc;refine(zn h b H e.sml l a c I z e.srt λ s E=>⟨(w s E).c0,(w s E).cl⟩).okv λ v U' P⟨⟨B,N,L⟩,G,M⟩=>?_;obtain⟨U'',T,V,F,W⟩:=L.freeze P (by rw[Bk.stys_len];omega);exact⟨U'',T,⟨B,N,W⟩,⟨λ x q Q=>F.imm x q (G x q Q),V,F.tok.trans M⟩⟩
end Go.Proofs
namespace Go.TM
open Go.Proofs (encII)
variable{T:Type}{P:Program}{S:Sys P T}{U U':Qa T}
def yj{α:Type}{enc:α->List Value}{n:Nat}(I:∀x,(enc x).length=n){a:Option Addr}{l:List α}(h:Qy U a l.length n l λ x vs=>vs=enc x)(w:0<n):Src U a (l.flatMap enc):=by
 cases a with
 |none=>
  cases l with
  |nil=>exact .inl ⟨rfl,rfl⟩
  |cons x l=>
   obtain⟨z,vs,e,_⟩:=h.2 0 x rfl;cases e
 |some z=>
  refine .inr ⟨z,rfl,λ j v K=>?_⟩;have H:=(List.getElem?_eq_some_iff.1 K).1;rw[Q1 I]at H;have G:j / n<l.length:=Nat.div_lt_of_lt_mul (by rw[Nat.mul_comm];exact H);have M:j % n<n:=Nat.mod_lt _ w;obtain⟨L,vs,e,B,rfl,P,N⟩:=h.2 (j / n) _ (getElem?_eq_getElem G);cases e;have b:j / n*n+j % n=j:=by rw[Nat.mul_comm];exact Nat.div_add_mod j n
  have E:=PO I (getElem?_eq_getElem G) M;rw[b,K]at E;have F:=N (j % n) v E.symm;obtain⟨bb,Q,S⟩:=z;cases B;rw[Qp,Qp,Nat.add_assoc,b]at F;rw[Qp];exact F
def ZF:Option (List (Int×Int))->Option (List (Int×Int))->Option (List (Int×Int))
 |none,y=>y
 |some x,none=>some x
 |some x,some y=>some (if QZ x y<0 then x else y)
def nb(l:List (Int×Int)):Option (List (Int×Int))->List (Int×Int)
 |none=>l
 |some y=>if QZ l y<0 then l else y
def Ds(f:Fm)(x:Operand)(v:Value)(h:Zo f x=v):((#[]++Array.map (Zo f) #[x])++#[]:Array Value)=#[v]:=by simp[h]
def VG(fb bb:Nat)(o:Option (List (Int×Int)))(M:List Qw):Prop:=∃a l c A,Jx 78 2 (.slice a l c) ((o.getD []).flatMap encII) A/\(∀x,o=some x->l=x.length)/\M=.obj fb (.cells [.bool o.isSome].toArray 4 (0,0))::.obj bb (.cells [.slice a l c].toArray 70 (0,0))::A
def JJ(fb bb:Nat)(e h:Option (List (Int×Int)))(a b:Bool):TM.Spec:=VG fb bb (ZF (if a then e else none) (if b then h else none))
structure Gk(U:Qa T)(h:BH)(b:Bk)(r:Nat)(w:Int)(i:Nat)(bcan bfst bbk brt bwt:Nat):Prop where
 can:∃a c,Zf U bcan #[.slice a b.cans.length c]/\Qy U.frz a b.cans.length 2 b.cans (λ x vs=>vs=encII x)/\b.cans.length<=c
 fst:Zf U bfst #[.int .i64 i]
 bk:Zf U bbk #[.slice h.ra h.rl h.rc,.slice h.ca h.cl h.cc]
 bv:Zp U.frz h b
 rt:Zf U brt #[.int .i64 r]
 wt:Zf U bwt #[.int .i64 w]
def Gk.imI{h:BH}{b:Bk}{r i:Nat}{w:Int}{bcan bfst bbk brt bwt:Nat}(k:Gk U h b r w i bcan bfst bbk brt bwt)(e:∀x o,U.I x=some o->U'.I x=some o)(z:U'.tok=U.tok):Gk U' h b r w i bcan bfst bbk brt bwt:=
 ⟨let ⟨a,c,h1,h2,h3⟩:=k.can;⟨a,c,h1.imI e,h2.lg ⟨e,⟨[],rfl⟩,z⟩ (λ _ _ h=>h),h3⟩,k.fst.imI e,k.bk.imI e,k.bv.lg ⟨e,⟨[],rfl⟩,z⟩,k.rt.imI e,k.wt.imI e⟩
end Go.TM
namespace Go.Proofs
open Go.TM
attribute [local irreducible] Qb Zh Wh
set_option maxHeartbeats 2000000 in
def zW{U₀:Qa Tk}(h:BH)(b:Bk)(bs:b.Ok)(b9:b.cans.Nodup)(r:Nat)(hr:r<b.rs.length)(w:Int)(i:Nat){bcan bfst bbk brt bwt lm fb bb g:Nat}{D:TM.Spec}{ci:Int×Int}(a6:b.cans[i]?=some ci)(he:Gk U₀ h b r w i bcan bfst bbk brt bwt)
  (E F:Option (List (Int×Int))) (a4:∀x,E=some x\/F=some x->x.length<=1000) (bw:∀x y,E=some x->F=some y->(if QZ y x<0 then y else x)=(if QZ x y<0 then x else y))
  (m:Nat) (hm:m<=5) (mt:Option ZS) (co:U₀.tok=⟨0,.wrk g D,mt⟩)
  (au:∀k q,(TM.parts (b.cans.drop (i+1)) m)[k]?=some q->(∀q'∈(TM.parts (b.cans.drop (i+1)) m).take k,b.good r w (ci::q')=false)->b.good r w (ci::q)=true->∃s lo,mt=some (.lok ⟨lm,168,JJ fb bb E F⟩ s .idle lo)/\(if s then F else E)=some (ci::q)) :
  P6 Za 89 #[] #[.pointer (some ⟨bcan,0,none⟩),.pointer (some ⟨bfst,0,none⟩),.pointer (some ⟨bbk,0,none⟩),.pointer (some ⟨brt,0,none⟩),.pointer (some ⟨bwt,0,none⟩),.pointer (some ⟨lm,0,none⟩),.pointer (some ⟨fb,0,none⟩),.pointer (some ⟨bb,0,none⟩)] encII 2 (TM.parts (b.cans.drop (i+1)) m)
   (λ k U'=>U'.tok=⟨0,.wrk g D,mt⟩/\∀q∈(TM.parts (b.cans.drop (i+1)) m).take k,b.good r w (ci::q)=false)
   (λ U'=>∃s lo,U'.tok=⟨0,.wrk g D,some (.lok ⟨lm,168,JJ fb bb E F⟩ s .fin lo)⟩) U₀:=by
 intro k q qa qc U X Mc hq h0 ba aw hM⟨ax,br⟩;have ax:U.tok=⟨0,.wrk g D,mt⟩:=ax;have he:=Gk.imI (U':=U) he h0.imm h0.tok;obtain⟨ce,cp⟩:=GE.1 (mem_of_getElem? hq)
 have a3:(ci::q).Sublist b.cans:=by
  have h1:b.cans.drop i=ci::b.cans.drop (i+1):=Ww a6;have h2:(ci::q).Sublist (b.cans.drop i):=by rw[h1];exact ce.cons_cons ci
  exact h2.trans (drop_sublist i b.cans)
 have bn:∀s∈ci::q,b.Fr s:=λ s hs=>Bk.cans_fr (a3.subset hs);have a1:(b.stys (ci::q)).Ok1:=bs.ok1.stys bn (b9.sublist a3);have bq:(ci::q).length<=6:=S3
 have bp:i<b.cans.length:=(List.getElem?_eq_some_iff.1 a6).1;refine Qb.post (R:=λ v U'=>(v=.bool false/\b.good r w (ci::q)=false/\U.lg U')\/(v=.bool true/\(∃s lo,U'.tok=⟨0,.wrk g D,some (.lok ⟨lm,168,JJ fb bb E F⟩ s .fin lo)⟩)/\∀x o,U.I x=some o->U'.I x=some o)) ?_ λ v U' hv=>?_
 rotate_left
 .rcases hv with⟨rfl,hg,av⟩|⟨rfl,ht,hI⟩
  .obtain⟨A,hA⟩:=av.own;refine⟨{ U' with M:=U.M },Z5 (by rw[hA];exact sublist_append_right ..),.inl ⟨rfl,⟨av.imm,⟨[],rfl⟩,av.tok⟩,Mc,hM,av.tok.trans ax,λ q' Y=>?_⟩⟩;rw[Z3 hq,mem_append]at Y;rcases Y with Y|Y
   .exact br q' Y
   .rw[mem_singleton.1 Y];exact hg
  .exact⟨U',.refl _,.inr ⟨rfl,[],U'.M,rfl,ht,hI⟩⟩
 refine Qb.ofD (args:=[_,_,_,_,_,_,_,_,_]) EH Qe S1 ?_;obtain⟨ca,cc,b4,b5,-⟩:=he.can;obtain⟨ad,x,vs,V,rfl,cm,rfl,-,cf⟩:=b5.at bp;rw[a6]at V;cases V;refine⟨_,b4.sees3 (o:=0) rfl,_,he.fst.sees3 (o:=0) rfl,ad,i,⟨rfl,rfl,bp⟩,_,⟨rfl,cf.lg Qm⟩,?_⟩
 conv=>whnf
 intro K bm;refine⟨U.put K (.cells (encII ci).toArray 78),.refl _,?_⟩;have H:=Z2 (U:=U) K (.cells (encII ci).toArray 78);have a5:(U.put K (.cells (encII ci).toArray 78)).M=.obj K (.cells (encII ci).toArray 78 (0,0))::U.M:=rfl;generalize U.put K (.cells (encII ci).toArray 78)=Up at H a5 ⊢
 conv=>whnf
 refine Wy (v:=.slice (some ⟨K,0,none⟩) 1 1) (cs:=encII ci) (new:=q.flatMap encII) (M₀:=U.M) KE rfl rfl (.inr ⟨K,(encII ci).toArray,1,1,rfl,rfl,Nat.le_refl _,rfl,a5,λ k v hv=>by simpa using hv⟩) (yj (enc:=encII) (n:=2) (λ _=>rfl) (ba.lg (Qm.trans H) λ _ _ h=>h) D1) (Q1 (f:=encII) (n:=2) (λ _=>rfl) q) (λ v hv=>by
  obtain⟨y,-,hy⟩:=mem_flatMap.1 hv;simp[encII]at hy;rcases hy with rfl|rfl <;> rfl) (by rw[Q1 (f:=encII) (n:=2) (λ _=>rfl)];simp[encII];omega) λ v' M' ai _=>?_
 have ai:Acc 78 2 v' ((ci::q).flatMap encII) M' U.M:=by simpa using ai
 obtain⟨A,be,hA⟩:=ai.split;obtain⟨W,ll,lc,rfl,a8⟩:=hA.src;have a8:(ci::q).length=ll:=by have e:=(Q1 (f:=encII) (n:=2) (λ _=>rfl) (ci::q)).symm.trans a8;omega
 subst a8;have T:U.lg ({ Up with M:=M' }:Qa Tk):=⟨H.imm,⟨A,be⟩,H.tok⟩
 have a7:Qy ({ Up with M:=M' }:Qa Tk) W (ci::q).length 2 (ci::q) λ x vs=>vs=encII x:=by
  obtain⟨a2,l2,c2,e2,h2,h3⟩:=Acc.src (U:={ Up with M:=M' }) ai;obtain⟨rfl,-,-⟩:=Value.slice.inj e2;refine G5 (enc:=encII) (n:=2) (λ _=>rfl) h3 (λ ad e=>?_) D1;subst e;rcases ai with⟨e1,_,_⟩|⟨b',c',bz,bc,e1,_⟩
  .cases e1
  .cases e1;rfl
 generalize bh:({ Up with M:=M' }:Qa Tk)=U1 at T a7 ⊢;have bf:U1.M=A++U.M:=by rw[<- bh];exact be
 clear bh bm H a5;have aj:=he.imI T.imm T.tok;refine⟨_,⟨rfl,aj.bk.rd⟩,?_⟩;refine⟨E9.any,(qJ (S:=Za) (U:=U1) h b aj.bv bs (ci::q) W lc a7 bq bn).mono ?_⟩;rintro _ U2⟨⟨P,rfl,aq⟩,b3⟩-
 conv=>whnf
 intro b0 bl;refine⟨_,.refl _,rfl,Zu (vs:=[.slice P.ra P.rl P.rc,.slice P.ca P.cl P.cc]) bl rfl (by simp[Value.single]) λ U3 bi Q=>?_⟩;have Q:Zf U3 b0 #[.slice P.ra P.rl P.rc,.slice P.ca P.cl P.cc]:=Q;have ak:=b3.trans bi;have aq:=aq.lg bi.lg.frz2;have bg:=ak.own.trans bf;have bj:=aj.imI ak.imm ak.tok;have am:=T.trans ak.lg;refine⟨_,⟨rfl,Q.rd⟩,?_⟩;refine⟨.int .i64 (if Wp (b.stys (ci::q)).A then 8 else 0),λ U' al _=>?_,?_⟩
 .refine⟨Sp.any,(FN P _ ((aq.lg al.lg.frz2).lg Qm) a1.low).mono ?_⟩;rintro _ U''⟨rfl,hU⟩-;exact⟨rfl,_,.refl _,hU▸.refl _⟩
 cases H:Wp (b.stys (ci::q)).A with
 |true=>
  have hg:b.good r w (ci::q)=false:=by unfold Bk.good;rw[H];rfl
  refine⟨rfl,?_⟩
  conv=>whnf
  intro U4 ah _
  repeat refine⟨rfl,?_⟩
  conv=>whnf
  exact .inl ⟨rfl,hg,am.trans ah.lg⟩
 |false=>
 have bt:=a1.ok H;have bo:b.good r w (ci::q)=((b.stys (ci::q)).fatR r==w):=by unfold Bk.good;rw[H];rfl
 refine⟨rfl,_,⟨rfl,Q.rd⟩,?_⟩;refine⟨_,bj.rt.sees3 (o:=0) rfl,.int .i64 ((b.stys (ci::q)).fatR r),λ U' al _=>?_,?_⟩
 .refine⟨GM.any,(V_ P _ (aq.lg al.lg.frz2) bt r (by rw[Bk.stys_rs];exact hr)).mono ?_⟩;rintro _ U''⟨rfl,hU⟩-;exact⟨rfl,_,.refl _,hU▸.refl _⟩
 refine⟨_,bj.wt.sees3 (o:=0) rfl,?_⟩
 conv=>whnf
 intro U4 ah _;have bd:=ah.own.trans bg;have N:=am.trans ah.lg;have b6:Qy U4 W (ci::q).length 2 (ci::q) λ x vs=>vs=encII x:=a7.lg (ak.trans ah).lg λ _ _ h=>h
 repeat refine⟨rfl,?_⟩
 conv=>whnf
 apply Qd<;>intro hc
 .have hg:b.good r w (ci::q)=false:=by
   rw[bo];have:(b.stys (ci::q)).fatR r≠w:=by simpa using hc
   simpa using this
  repeat refine⟨rfl,?_⟩
  conv=>whnf
  exact .inl ⟨rfl,hg,N⟩
 have hg:b.good r w (ci::q)=true:=by
  rw[bo];have:(b.stys (ci::q)).fatR r=w:=by simpa using hc
  simpa using this
 obtain⟨s,lo,rfl,L⟩:=au k q hq br hg;have cg:U4.tok=⟨0,.wrk g D,some (.lok ⟨lm,168,JJ fb bb E F⟩ s .idle lo)⟩:=N.tok.trans ax
 have a9:Qb Za 92 #[.pointer (some ⟨lm,0,none⟩)] (λ v U'=>v=.tuple #[]/\∃B M lo',JJ fb bb E F (if s then B else false) (if s then false else B) M/\U'.M=M++U4.M/\(∀x o,U4.I x=some o->U'.I x=some o)/\U'.tok=⟨0,.wrk g D,some (.lok ⟨lm,168,JJ fb bb E F⟩ s (.own B) lo')⟩) U4:=by
  refine Qb.post (R:=λ v U'=>v=.tuple #[]/\∃B M lo',JJ fb bb E F (if s then B else false) (if s then false else B) M/\U'.M=U4.M++M/\(∀x o,U4.I x=some o->U'.I x=some o)/\U'.tok=⟨0,.wrk g D,some (.lok ⟨lm,168,JJ fb bb E F⟩ s (.own B) lo')⟩) (C2 cg λ B M lo' aw=>⟨rfl,B,M,lo',aw,rfl,λ _ _ h=>h,rfl⟩) λ v U'⟨hv,B,M,lo',aw,ae,hI,ht⟩=>?_;exact⟨{ U' with M:=M++U4.M },HB (by rw[ae];exact perm_append_comm),hv,B,M,lo',aw,rfl,hI,ht⟩
 refine⟨Bv,a9.mono ?_⟩;rintro _ U5⟨rfl,B,MS,lo',b2,z,az,bx⟩-;obtain⟨ya,yl,yc,Z,aa,ay,rfl⟩:=b2;have z:U5.M=.obj fb (.cells [.bool (ZF (if(if s then B else false)then E else none) (if(if s then false else B)then F else none)).isSome].toArray 4 (0,0))::.obj bb (.cells [.slice ya yl yc].toArray 70 (0,0))::(Z++(A++U.M)):=by rw[z,bd];simp
 have fin:∀(M₁ M₂:List Qw)(U6:Qa Tk),U6.tok=U5.tok->(∀x o,U5.I x=some o->U6.I x=some o)->U6.M=M₁++M₂->JJ fb bb E F (if s then B else true) (if s then true else B) M₁ ->
   XW Za 93 #[.pointer (some ⟨lm,0,none⟩)] (λ U'=>(Value.bool true=.bool false/\b.good r w (ci::q)=false/\U.lg U')\/(Value.bool true=.bool true/\(∃s lo,U'.tok=⟨0,.wrk g D,some (.lok ⟨lm,168,JJ fb bb E F⟩ s .fin lo)⟩)/\∀x o,U.I x=some o->U'.I x=some o)) U6:=by
  intro M₁ M₂ U6 ht hI ae hD;exact RB (ht.trans bx) ae hD (.inr ⟨rfl,⟨s,lo',rfl⟩,λ x o V=>hI x o (az x o (N.imm x o V))⟩)
 generalize G:ZF (if(if s then B else false)then E else none) (if(if s then false else B)then F else none)=o at aa ay z
 have an:ZF (if(if s then B else true)then E else none) (if(if s then true else B)then F else none)=some (nb (ci::q) o):=by
  cases s with
  |false=>
   have L:E=some (ci::q):=L;have G:ZF none (if B then F else none)=o:=G;show ZF E (if B then F else none)=_;rw[L];have G:(if B then F else none)=o:=G;rw[G];cases o <;> rfl
  |true=>
   have L:F=some (ci::q):=L;have G:ZF (if B then E else none) none=o:=G;show ZF (if B then E else none) F=_;rw[L]
   have G:(if B then E else none)=o:=by
    rw[<- G];cases(if B then E else none) <;> rfl
   rw[G];cases o with
   |none=>rfl
   |some y=>
    have b1:E=some y:=by
     cases B with
     |true=>exact G
     |false=>cases G
    show some (if QZ y (ci::q)<0 then y else ci::q)=some (if QZ (ci::q) y<0 then ci::q else y);rw[bw y (ci::q) b1 L]
 have bu:(Value.slice W (ci::q).length lc).single=true:=rfl
 have ck:∀U':Qa Tk,U'.M=U5.M->U'.sees ((Addr.mk fb 0 none)) (.bool o.isSome):=λ U' ae=>by
  have:=J2 (U:=U') (b:=fb) (e:=4) (vs:=[.bool o.isSome]) (by rw[ae,z];simp) 0 _ rfl;exact this
 repeat refine⟨rfl,?_⟩
 refine⟨_,ck U5 rfl,?_⟩;cases o with
 |none=>
  refine⟨rfl,VW (b:=bb) (e:=70) (c:=[.slice ya yl yc].toArray) (L₁:=[.obj fb (.cells [.bool false].toArray 4 (0,0))]) (L₂:=A++(Z++U.M)) (vs:=[.slice W (ci::q).length lc]) (by
   rw[z];refine Perm.cons _ (Perm.cons _ ?_);exact perm_append_comm_assoc _ _ _) rfl (by simp[Value.single]) λ U6 ab ao af=>?_⟩
  refine⟨rfl,Jt (b:=fb) (e:=4) (c:=[.bool false].toArray) (vs:=[.bool true]) (M₀:=.obj bb (.cells [.slice W (ci::q).length lc].toArray 70 (0,0))::(A++(Z++U.M))) [] af rfl (by simp[Value.single]) λ U7 ac ap ag=>?_⟩
  have hd:=fin (.obj fb (.cells [.bool true].toArray 4 (0,0))::.obj bb (.cells [.slice W (ci::q).length lc].toArray 70 (0,0))::A) (Z++U.M) U7 (ap.trans ao) (λ x o V=>by rw[ac,ab];exact V) (by rw[ag];simp) (by
   unfold JJ;rw[an];exact⟨W,_,lc,A,hA,λ x V=>by cases V;rfl,rfl⟩)
  refine⟨rfl,Tx,?_⟩;refine cast (congrArg (λ a=>XW Za 93 a _ _) (Ds _ (.t 6) (.pointer (some ⟨lm,0,none⟩)) rfl).symm) ?_;exact hd.mono λ U' hq=>by(conv=>whnf);exact hq
 |some y=>
  have ay:=ay y rfl;subst ay;have aa:Jx 78 2 (.slice ya y.length yc) (y.flatMap encII) Z:=aa
  have cj:U5.sees (Addr.mk bb 0 none) (.slice ya y.length yc):=by
   have:=J2 (U:=U5) (b:=bb) (e:=70) (vs:=[.slice ya y.length yc]) (by rw[z];simp) 0 _ rfl;exact this
  have b8:Qy U5 ya y.length 2 y λ x vs=>vs=encII x:=by
   have a0:=aa [];obtain⟨a2,l2,c2,e2,h2,h3⟩:=Acc.src (U:={ U5 with M:=Z++[] }) a0;obtain⟨rfl,-,-⟩:=Value.slice.inj e2
   refine(G5 (enc:=encII) (n:=2) (λ _=>rfl) h3 (λ ad e=>?_) D1).mem (λ _ _ h=>h) (λ r hr=>by
    have hr:r∈Z:=by simpa using hr
    rw[z];simp[hr])
   subst e;rcases a0 with⟨e1,_,_⟩|⟨b',c',bz,bc,e1,_⟩
   .cases e1
   .cases e1;rfl
  have b7:Qy U5 W (ci::q).length 2 (ci::q) λ x vs=>vs=encII x:=b6.mem az λ r hr=>by
   rw[bd]at hr;rw[z];simp at hr ⊢;rcases hr with hr|hr <;> simp[hr]
  have ch:y.length<=1000:=by
   refine a4 y ?_;cases s with
   |false=>
    have G:(if B then F else none)=some y:=G;cases B with
    |true=>exact .inr G
    |false=>cases G
   |true=>
    have G:ZF (if B then E else none) none=some y:=G;cases B with
    |true=>
     have G:ZF E none=some y:=G;refine .inl ?_;rw[<- G];cases E <;> rfl
    |false=>cases G
  repeat refine⟨rfl,?_⟩
  refine⟨_,cj,Ea.any,(Rj (ci::q) y W ya lc yc b7 b8 O1 ch).go λ _=>?_⟩
  repeat refine⟨rfl,?_⟩
  conv=>whnf
  apply Qd<;>intro hc
  .have hlt:QZ (ci::q) y<0:=by simpa using hc
   refine⟨rfl,VW (b:=bb) (e:=70) (c:=[.slice ya y.length yc].toArray) (L₁:=[.obj fb (.cells [.bool true].toArray 4 (0,0))]) (L₂:=A++(Z++U.M)) (vs:=[.slice W (ci::q).length lc]) (by
    rw[z];refine Perm.cons _ (Perm.cons _ ?_);exact perm_append_comm_assoc _ _ _) rfl (by simp[Value.single]) λ U6 ab ao af=>?_⟩
   refine⟨rfl,Jt (b:=fb) (e:=4) (c:=[.bool true].toArray) (vs:=[.bool true]) (M₀:=.obj bb (.cells [.slice W (ci::q).length lc].toArray 70 (0,0))::(A++(Z++U.M))) [] af rfl (by simp[Value.single]) λ U7 ac ap ag=>?_⟩
   have hd:=fin (.obj fb (.cells [.bool true].toArray 4 (0,0))::.obj bb (.cells [.slice W (ci::q).length lc].toArray 70 (0,0))::A) (Z++U.M) U7 (ap.trans ao) (λ x o V=>by rw[ac,ab];exact V) (by rw[ag];simp) (by
    unfold JJ;rw[an];show VG fb bb (some (if QZ (ci::q) y<0 then ci::q else y)) _;rw[if_pos hlt];exact⟨W,_,lc,A,hA,λ x V=>by cases V;rfl,rfl⟩)
   refine⟨rfl,Tx,?_⟩;refine cast (congrArg (λ a=>XW Za 93 a _ _) (Ds _ (.t 6) (.pointer (some ⟨lm,0,none⟩)) rfl).symm) ?_;exact hd.mono λ U' hq=>by(conv=>whnf);exact hq
  .have hlt:¬QZ (ci::q) y<0:=by simpa using hc
   have hd:=fin (.obj fb (.cells [.bool true].toArray 4 (0,0))::.obj bb (.cells [.slice ya y.length yc].toArray 70 (0,0))::Z) (A++U.M) U5 rfl (λ _ _ h=>h) (by rw[z];simp) (by
    unfold JJ;rw[an];show VG fb bb (some (if QZ (ci::q) y<0 then ci::q else y)) _;rw[if_neg hlt];exact⟨ya,_,yc,Z,aa,λ x V=>by cases V;rfl,rfl⟩)
   refine⟨rfl,Tx,?_⟩;refine cast (congrArg (λ a=>XW Za 93 a _ _) (Ds _ (.t 6) (.pointer (some ⟨lm,0,none⟩)) rfl).symm) ?_;exact hd.mono λ U' hq=>by(conv=>whnf);exact hq
end Go.Proofs
namespace Go.TM
variable{T:Type}{P:Program}{S:Sys P T}{U:Qa T}
def Q4.code{g:FuncId}{N:Nat}{cc:C}{rl:List RV}(k:Q4 P g N cc rl)(B:P.follows .mixedOrders=true){args:List Value}(E:args.length<=N){U:Qa T}{n:Zq T}{x:Nat->Zq T}{r:Zq T}
  (h:WA S g none cc n x r (fm args) [] U):∃fd:Func,P.funcs[g]?=some fd/\fd.body=some (fd.body.getD .skip)/\fd.ntmps=N/\Zv S g none (fd.body.getD .skip) (P5 N n x r) { tmps:=args.toArray++Array.replicate (fd.ntmps-args.toArray.size) undef,defers:=[] } U:=by
 obtain⟨fd,mu,dets,z,e,w,rfl,F,-⟩:=k.ok;refine⟨fd,z,e,rfl,?_⟩
 have b:FR fd.ntmps { tmps:=args.toArray++Array.replicate (fd.ntmps-args.toArray.size) undef,defers:=[] } (fm args) []:=by
  refine⟨rfl,S3,λ t=>?_⟩;simp only[fm,Array.getD_eq_getD_getElem?,getD_eq_getElem?_getD,Array.getElem?_append,size_toArray,getElem?_toArray];split
  .rfl
  .rename_i hlt;rw[getElem?_eq_none O1,Array.getElem?_replicate];split <;> rfl
 subst w;exact GH B _ b h
def Qy.drop{a:Option Addr}{cap n:Nat}{α:Type}{l:List α}{R:α->List Value->Prop}(h:Qy U a l.length n l R)(I:l.length<=cap){j:Nat}(K:j<=l.length):Qy U (if cap=j then a else a.map (·.add (j*n))) (l.length-j) n (l.drop j) R:=by
 refine⟨S1,λ i x z=>?_⟩;rw[getElem?_drop]at z;have F:=(List.getElem?_eq_some_iff.1 z).1;obtain⟨b,vs,e,w,B,E,G⟩:=h.2 (j+i) x z;rw[if_neg O1];refine⟨b.add (j*n),vs,by rw[e];rfl,by obtain⟨H,L,M⟩:=b;cases w;rw[Qp],B,E,?_⟩;rw[show(b.add (j*n)).add (i*n)=b.add ((j+i)*n) by rw[uH b w,Nat.add_mul]];exact G
end Go.TM
namespace Go.Proofs
open Go.TM
attribute [local irreducible] Qb Zh Wh
section
variable(g bcan bm bbk brt bwt lm fb bb:Nat)(i:Int)(T:Array Value)(todo:List Go.Item)
def HY:List Value:=[.pointer (some ⟨g,0,none⟩),.pointer (some ⟨bcan,0,none⟩),.pointer (some ⟨bm,0,none⟩),.pointer (some ⟨bbk,0,none⟩),.pointer (some ⟨brt,0,none⟩),.pointer (some ⟨bwt,0,none⟩),.pointer (some ⟨lm,0,none⟩),.pointer (some ⟨fb,0,none⟩),.pointer (some ⟨bb,0,none⟩)]
def VF:List Value:=.int .i64 i::HY g bcan bm bbk brt bwt lm fb bb
def DK:Deferred:={ target:=.fn (.func 86) (HY g bcan bm bbk brt bwt lm fb bb).toArray,args:=#[.int .i64 i] }
def VM:Frame:={ (default:Frame)with fn:=86,kind:=.deferred }
def P9:Deferred:={ target:=.fn (.func 87) #[],args:=#[]++#[.pointer (some ⟨g,0,none⟩)] }
def kA:Qn prog 175 false 1 (P3 prog (DK g bcan bm bbk brt bwt lm fb bb i))=some []:=K1
def kB:Qi prog 175 false 1 (P3 prog (DK g bcan bm bbk brt bwt lm fb bb i))=R VM { tmps:=(VF g bcan bm bbk brt bwt lm fb bb i).toArray++Array.replicate (Tryz.f86.ntmps-(VF g bcan bm bbk brt bwt lm fb bb i).toArray.size) undef,defers:=[] } [.code (Tryz.f86.body.getD .skip)] [PM]:=K1
def kw:Qn prog 175 false 1 (Rf { fr VM ⟨T,[P9 g]⟩ todo with mode:=.returning } [PM])=some []:=K1
def kz:Qi prog 175 false 1 (Rf { fr VM ⟨T,[P9 g]⟩ todo with mode:=.returning } [PM])=Sq g T todo:=K1
end
def xQ(g:Nat)(D:TM.Spec)(T:Array Value)(todo:List Go.Item){U:Qa Tk}{mu:Option ZS}(h:U.tok=⟨0,.wrk g D,mu⟩)(e:mu=none\/∃x s lo,mu=some (.lok x s .fin lo))(w:D U.M){Stop:QJ Tk}:J Za Stop false (Rf { fr VM ⟨T,[P9 g]⟩ todo with mode:=.returning } [PM]) U:=by
 refine J.calm0 (kw g T todo) ?_;rw[kz];refine J.calm (b:=g) (by rw[h];rfl) (zu g T todo) Q6 ?_;show J _ Stop false (Yd g T todo) U;exact .syn (QD.lay (Qo (SE.of_info (g:=Yd g T todo) (FG g T todo))) h e w Qg (Xl (FG g T todo) rfl) (AK g T todo))
structure DD(b:Bk)(r:Nat)(w:Int)(m i:Nat)(mt:Option ZS)(lm fb bb:Nat)(Lf Lt:Option (List (Int×Int))):Prop where
 first:∀ci,b.cans[i]?=some ci->∀k q,(TM.parts (b.cans.drop (i+1)) m)[k]?=some q->(∀q'∈(TM.parts (b.cans.drop (i+1)) m).take k,b.good r w (ci::q')=false)->b.good r w (ci::q)=true->∃s lo,mt=some (.lok ⟨lm,168,JJ fb bb Lf Lt⟩ s .idle lo)/\(if s then Lt else Lf)=some (ci::q)
 none:∀ci,b.cans[i]?=some ci->(∀q∈TM.parts (b.cans.drop (i+1)) m,b.good r w (ci::q)=false)->mt=none
def zZ{U:Qa Tk}(h:BH)(b:Bk)(ak:b.Ok)(ai:b.cans.Nodup)(r:Nat)(hr:r<b.rs.length)(w:Int)(i:Nat){bcan bm bbk brt bwt lm fb bb g:Nat}(hi:i<b.cans.length)
  (he:∀(U':Qa Tk)bfst,(∀x o,U.I x=some o->U'.I x=some o)->U'.tok=U.tok->Zf U' bfst #[.int .i64 i]->Gk U' h b r w i bcan bfst bbk brt bwt) (am:b.cans.length<=900)
  (P Q:Option (List (Int×Int))) (H:∀x,P=some x\/Q=some x->x.length<=1000) (ac:∀x y,P=some x->Q=some y->(if QZ y x<0 then y else x)=(if QZ x y<0 then x else y))
  (m:Nat) (hm:m<=5) (ae:Zf U bm #[.int .i64 (m+1:Nat)]) (mt:Option ZS) (D:TM.Spec) (F:U.tok=⟨0,.wrk g D,mt⟩) (hw:DD b r w m i mt lm fb bb P Q) {K:List Deferred->Qa Tk->Prop}
  (hK:∀U':Qa Tk,(∃mu,U'.tok=⟨0,.wrk g D,mu⟩/\(mu=none\/∃x s lo,mu=some (.lok x s .fin lo)))->K [P9 g] U') :
  WA Za 86 none E4 (λ _ ds U=>K ds U) (λ _ _ _ _=>False) (λ _ _ _=>False) (fm (VF g bcan bm bbk brt bwt lm fb bb i)) [] U:=by
 obtain⟨ci,M⟩:∃ci,b.cans[i]?=some ci:=⟨_,getElem?_eq_getElem hi⟩
 conv=>whnf
 intro G U1 z e;have e:Zf U1 G #[.int .i64 i]:=e;have W:=he U1 G z.imm z.tok e;have T:=ae.le z;obtain⟨ca,cc,ad,af,V⟩:=W.can;have aa:Ze ((i:Int)+1):=I1
 have ab:Ze (((m+1:Nat):Int)-1):=I1
 have ah:((m+1:Nat):Int)-1=(m:Int):=O1
 have B:(b.cans.drop (i+1)).length=b.cans.length-(i+1):=S1
 have N:=Qy.drop (cap:=cc) af V (j:=i+1) O1;have al:=zW (U₀:=U1) h b ak ai r hr w i (bcan:=bcan) (bfst:=G) (bbk:=bbk) (brt:=brt) (bwt:=bwt) (lm:=lm) (fb:=fb) (bb:=bb) (g:=g) (D:=D) M W P Q H ac m hm mt (z.tok.trans F) (hw.first ci M);have Z:∀f:Fm,f 1=.pointer (some ⟨g,0,none⟩)->(#[]++Array.map (Zo f) #[Operand.tmp 1]:Array Value)=#[]++#[.pointer (some ⟨g,0,none⟩)]:=λ f hf=>by simp[Zo,hf]
 refine⟨rfl,_,ad.sees3 (o:=0) rfl,_,e.sees3 (o:=0) rfl,aa,i+1,b.cans.length,⟨O1,rfl,O1,V⟩,_,T.sees3 (o:=0) rfl,ab,?_⟩
 conv=>whnf
 intro U2 L _
 have Y:=zA (S:=Za) (U:=U2) (b.cans.drop (i+1)) _ (cc-(i+1)) (by rw[B];exact N.lg L.lg.frz2 λ _ _ h=>h) O1 m O1 89 #[] _ EH.any (I:=λ k U'=>U'.tok=⟨0,.wrk g D,mt⟩/\∀q∈(TM.parts (b.cans.drop (i+1)) m).take k,b.good r w (ci::q)=false) (E:=λ U'=>∃s lo,U'.tok=⟨0,.wrk g D,some (.lok ⟨lm,168,JJ fb bb P Q⟩ s .fin lo)⟩)
  (λ k U1 U2 ag⟨h1,h2⟩=>⟨ag.tok.trans h1,h2⟩) (λ k p a cap U X Mc hp h0=>al k p a cap U X Mc hp (L.lg.frz2.trans h0)) ⟨L.tok.trans (z.tok.trans F),S1⟩
 rw[B]at Y;rw[ah];refine⟨EG.any,Y.mono ?_⟩;rintro v U3 (⟨rfl,-,ht,aj⟩|⟨rfl,⟨s,lo,ht⟩,-⟩) -
 .have hmt:=hw.none ci M λ q hq=>aj q (by rw[take_length];exact hq)
  repeat refine⟨rfl,?_⟩
  conv=>whnf
  exact cast (congrArg (λ a=>K [{ target:=.fn (.func 87) #[],args:=a }] U3) (Z _ rfl).symm) (hK U3 ⟨mt,ht,.inl hmt⟩)
 .repeat refine⟨rfl,?_⟩
  conv=>whnf
  exact cast (congrArg (λ a=>K [{ target:=.fn (.func 87) #[],args:=a }] U3) (Z _ rfl).symm) (hK U3 ⟨_,ht,.inr ⟨_,_,_,rfl⟩⟩)
def zY{U:Qa Tk}(h:BH)(b:Bk)(X:b.Ok)(W:b.cans.Nodup)(r:Nat)(hr:r<b.rs.length)(w:Int)(i:Nat){bcan bm bbk brt bwt lm fb bb g:Nat}(hi:i<b.cans.length)
  (he:∀(U':Qa Tk)bfst,(∀x o,U.I x=some o->U'.I x=some o)->U'.tok=U.tok->Zf U' bfst #[.int .i64 i]->Gk U' h b r w i bcan bfst bbk brt bwt) (M:b.cans.length<=900)
  (G H:Option (List (Int×Int))) (e:∀x,G=some x\/H=some x->x.length<=1000) (E:∀x y,G=some x->H=some y->(if QZ y x<0 then y else x)=(if QZ x y<0 then x else y))
  (m:Nat) (hm:m<=5) (L:Zf U bm #[.int .i64 (m+1:Nat)]) (Y:Option ZS) (F:U.tok=⟨0,.wrk g λ _=>True,Y⟩) (hw:DD b r w m i Y lm fb bb G H) (Stop:QJ Tk) :
  J Za Stop false (P3 prog (DK g bcan bm bbk brt bwt lm fb bb i)) U:=by
 refine J.calm0 (kA ..) ?_;rw[kB]
 obtain⟨fd,V,ab,hN,z⟩:=tS.code (S:=Za) Qe (args:=VF g bcan bm bbk brt bwt lm fb bb i) (by simp[VF,HY])
  (zZ (K:=λ ds U'=>ds=[P9 g]/\∃mu,U'.tok=⟨0,.wrk g λ _=>True,mu⟩/\(mu=none\/∃x s lo,mu=some (.lok x s .fin lo))) h b X W r hr w i hi he M G H e E m hm L Y _ F hw λ U' h=>⟨rfl,h⟩)
 have:fd=Tryz.f86:=Option.some.inj (V.symm.trans Tryz.func86);subst this;refine J.body (fn:=86) (Q:=_) ⟨rfl,rfl,by simp[VM],S1⟩ z λ e' a' U' B=>?_;obtain⟨f',aa,P,B⟩:=B;cases e' with
 |normal=>
  obtain⟨rfl,mu,h2,h3⟩:=B;refine⟨.inl rfl,λ todo=>?_⟩;obtain⟨T,Z⟩:=a';have N:Z=[P9 g]:=P.ds;subst N;exact xQ g _ T todo h2 h3 trivial
 |exit i=>exact B.elim
 |ret=>exact B.elim
end Go.Proofs
namespace Go.TM
variable{T:Type}{P:Program}{S:Sys P T}{U U':Qa T}
def Z0.mem{a:Option Addr}{len:Nat}{l:List Int}(h:Z0 U a len l)(b:∀x o,U.I x=some o->U'.I x=some o)(w:∀r∈U.M,r∈U'.M):Z0 U' a len l:=
 ⟨h.1,λ i x z=>let ⟨ad,e,s,hs⟩:=h.2 i x z;⟨ad,e,s,hs.mem b w⟩⟩
def Qy.mem2{a:Option Addr}{len n:Nat}{α:Type}{l:List α}{R R':α->List Value->Prop}(h:Qy U a len n l R)(b:∀x o,U.I x=some o->U'.I x=some o)(w:∀r∈U.M,r∈U'.M)(z:∀x vs,R x vs->R' x vs):Qy U' a len n l R':=
 ⟨h.1,λ i x B=>let ⟨ad,vs,e,s,r,hl,hr⟩:=h.2 i x B;⟨ad,vs,e,s,z _ _ r,hl,hr.mem b w⟩⟩
def J5.mem{a:Option Addr}{len:Nat}{E:List (List Int)}(h:J5 U a len E)(z:∀x o,U.I x=some o->U'.I x=some o)(B:∀r∈U.M,r∈U'.M):J5 U' a len E:=
 Qy.mem2 h z B λ _ _⟨a',w,b,e,F,G⟩=>⟨a',w,b,e,F.mem z B,G⟩
def Zp.mem{h:BH}{b:Bk}(k:Zp U h b)(w:∀x o,U.I x=some o->U'.I x=some o)(z:∀r∈U.M,r∈U'.M):Zp U' h b:=
 ⟨k.rs.mem2 w z λ _ _ h=>h,k.cs.mem2 w z λ _ _⟨ga,gl,gc,aa,al,ac,e,B,E,F,G⟩=>⟨ga,gl,gc,aa,al,ac,e,B.mem w z,E,F.mem w z,G⟩,k.rl,k.cl,k.rn,k.cn⟩
end Go.TM
namespace Go.Proofs
open Go.TM
attribute [local irreducible] Qb Zh Wh
def HT{T:Type}(U:Qa T)(v:Value)(l:List (Int×Int)):Prop:=∃a c,v=.slice a l.length c/\Qy U a l.length 2 l (λ x vs=>vs=encII x)
structure Gh(b:Bk)(r:Nat)(w:Int)(m:Nat)(sd:Nat->Option Bool)(Lf Lt:Option (List (Int×Int))):Prop where
 n:b.cans.Nodup
 pos:0<b.cans.length
 six:b.cans.length<=6
 m5:m<=5
 len:∀x,Lf=some x\/Lt=some x->x.length<=1000
 sym:∀x y,Lf=some x->Lt=some y->(if QZ y x<0 then y else x)=(if QZ x y<0 then x else y)
 no:∀i ci,b.cans[i]?=some ci->(TM.parts (b.cans.drop (i+1)) m).find? (λ q=>b.good r w (ci::q))=none->sd i=none
 yes:∀i ci q,b.cans[i]?=some ci->(TM.parts (b.cans.drop (i+1)) m).find? (λ q=>b.good r w (ci::q))=some q->∃s,sd i=some s/\(if s then Lt else Lf)=some (ci::q)
 one:∀i j s,sd i=some s->sd j=some s->i=j
 out:∀s,((range b.cans.length).any λ i=>sd i==some s)=false->(if s then Lt else Lf)=none
def JA(b:Nat->Option Bool)(i:Nat)(s:Bool):Bool:=(range i).any λ j=>b j==some s
def sP{b:Nat->Option Bool}{i:Nat}(h:b i=none):JA b (i+1)=JA b i:=by
 funext s;unfold JA;rw[range_succ,any_append];simp[h]
def sQ{b:Nat->Option Bool}{i:Nat}{s:Bool}(h:b i=some s)(w:∀i j s,b i=some s->b j=some s->i=j):JA b i s=false/\JA b (i+1)=ZM (JA b i) s true:=by
 have z:JA b i s=false:=by
  unfold JA;rw[any_eq_false];intro j B e;rw[mem_range]at B;have:=w j i s (by simpa using e) h;omega
 refine⟨z,?_⟩;funext s';unfold JA ZM;rw[range_succ,any_append];by_cases e:s'=s
 .subst e;simp[h]
 .rw[if_neg e];simp[h,Ne.symm e]
abbrev Hq(lm fb bb:Nat)(b e:Option (List (Int×Int))):QW:=⟨lm,168,JJ fb bb b e⟩
abbrev XV:TM.Spec:=λ _=>True
def vZ{α:Type}{p:α->Bool}{l:List α}(h:∀q∈l,p q=false):l.find? p=none:=by
 rw[find?_eq_none];intro q b;rw[h q b];simp
def uX{α:Type}{p:α->Bool}{l:List α}{k:Nat}{q:α}(b:l[k]?=some q)(h:∀q'∈l.take k,p q'=false)(w:p q=true):l.find? p=some q:=by
 rw[find?_eq_some_iff_getElem];obtain⟨b,e⟩:=List.getElem?_eq_some_iff.1 b;refine⟨w,k,b,e,λ j z=>?_⟩;have:=h l[j] (mem_take_iff_getElem.2 ⟨j,O1,rfl⟩);simp[this]
set_option maxHeartbeats 2000000 in
def Fw{U:Qa Tk}(al:U.tok=⟨0,.out,none⟩)(h:BH)(b:Bk)(hb:Zp U.frz h b)(bc:b.Ok)(r:Nat)(hr:r<b.rs.length)(w:Int)(m:Nat){Q:Nat->Option Bool}{z B:Option (List (Int×Int))}(X:Gh b r w m Q z B) :
  Qb Za 59 #[h.v,.int .i64 r,.int .i64 (m+1:Nat),.int .i64 w] (λ v U'=>(∃v1,v=.tuple #[v1,.bool (ZF z B).isSome]/\HT U'.frz v1 ((ZF z B).getD []))/\U.le U') U:=by
 have bw:=bc.nc
 have bg:Qb Za 59 #[h.v,.int .i64 r,.int .i64 (m+1:Nat),.int .i64 w] (λ v U'=>∃a l c A Z,v=.tuple #[.slice a l c,.bool (ZF z B).isSome]/\Jx 78 2 (.slice a l c) (((ZF z B).getD []).flatMap encII) A/\U'.M.Perm (A++(Z++U.M))/\(∀x o,U.I x=some o->U'.I x=some o)/\U'.tok=U.tok) U:=by
  refine Qb.of (args:=[_,_,_,_]) Sj Qe S1 ?_
  conv=>whnf
  intro b4 U1 bn G;have G:Zf U1 b4 #[.slice h.ra h.rl h.rc,.slice h.ca h.cl h.cc]:=G
  conv=>whnf
  intro b5 U2 a0 K;have K:Zf U2 b5 #[.int .i64 r]:=K
  conv=>whnf
  intro b6 U3 an L;have L:Zf U3 b6 #[.int .i64 (m+1:Nat)]:=L
  conv=>whnf
  intro b7 U4 ae ab;have ab:Zf U4 b7 #[.int .i64 w]:=ab;have ak:=((bn.trans a0).trans an).trans ae;have G:=G.le ((a0.trans an).trans ae);have K:=K.le (an.trans ae);have L:=L.le ae;refine⟨_,⟨rfl,G.rd⟩,?_⟩;refine⟨EF.any,(Ag h b (hb.lg ak.lg.frz2) bw).mono ?_⟩;rintro _ U5⟨⟨ca,cc,rfl,ap,br,-⟩,bo⟩-
  conv=>whnf
  intro H aj;refine⟨_,.refl _,rfl,Zu (vs:=[.slice ca b.cans.length cc]) aj rfl (by simp[Value.single]) λ W a3 N=>?_⟩;have N:Zf W H #[.slice ca b.cans.length cc]:=N;have E:=bo.trans a3;have P:=ak.trans E;have G:=G.le E;have K:=K.le E;have L:=L.le E;have ab:=ab.le E;have bq:Zp W.frz h b:=hb.lg P.lg.frz2;have ap:Qy W.frz ca b.cans.length 2 b.cans (λ x vs=>vs=encII x):=ap.lg a3.lg.frz2 λ _ _ h=>h
  conv=>whnf
  intro lm a7;refine⟨_,.refl _,?_⟩
  conv=>whnf
  intro F a8;refine⟨_,.refl _,?_⟩
  conv=>whnf
  intro bb a5;refine⟨_,.refl _,?_⟩
  conv=>whnf
  intro fb a6;refine⟨_,.refl _,rfl,Gd (vs:=[.bool false]) rfl (by simp[Value.single]) ?_⟩
  have az:((((W.put lm (.cells #[.int .i32 0,.int .u32 0] 168)).put F (.cells #[.int .u64 0,.int .u32 0] 175)).put bb (.cells #[.slice none 0 0] 70)).put fb (.cells [.bool false].toArray 4)).M=[.obj fb (.cells [.bool false].toArray 4 (0,0)),.obj bb (.cells [.slice none 0 0].toArray 70 (0,0))]++.obj F (.cells #[Q2 0 0,Qq 0] 175 (0,0))::(.obj lm (.cells #[Zg 0,Qq 0] 168 (0,0))::U.M):=by
   show _::_::_::_::W.M=_;rw[P.own];rfl
  have am:∀x o,W.I x=some o->((((W.put lm (.cells #[.int .i32 0,.int .u32 0] 168)).put F (.cells #[.int .u64 0,.int .u32 0] 175)).put bb (.cells #[.slice none 0 0] 70)).put fb (.cells [.bool false].toArray 4)).I x=some o:=λ _ _ h=>h;have be:((((W.put lm (.cells #[.int .i32 0,.int .u32 0] 168)).put F (.cells #[.int .u64 0,.int .u32 0] 175)).put bb (.cells #[.slice none 0 0] 70)).put fb (.cells [.bool false].toArray 4)).tok=⟨0,.out,none⟩:=P.tok.trans al;generalize((((W.put lm (.cells #[.int .i32 0,.int .u32 0] 168)).put F (.cells #[.int .u64 0,.int .u32 0] 175)).put bb (.cells #[.slice none 0 0] 70)).put fb (.cells [.bool false].toArray 4))=U7 at az am be ⊢;clear a7 a8 a5 a6 aj;refine⟨_,(N.imI am).sees3 (o:=0) rfl,Nat,λ i=>[(12,.pointer (some ⟨F,0,none⟩)),(13,.pointer (some ⟨bb,0,none⟩)),(14,.pointer (some ⟨fb,0,none⟩)),(15,.func (.func 86) #[] (HY F H b6 b4 b5 b7 lm fb bb).toArray),(21,.int .i64 b.cans.length),(22,.int .i64 i)],
   λ i U'=>(∀x o,U7.I x=some o->U'.I x=some o)/\i<=b.cans.length/\((i=0/\U'.tok=⟨0,.out,none⟩/\U'.M=[.obj fb (.cells [.bool false].toArray 4 (0,0)),.obj bb (.cells [.slice none 0 0].toArray 70 (0,0))]++.obj F (.cells #[Q2 0 0,Qq 0] 175 (0,0))::(.obj lm (.cells #[Zg 0,Qq 0] 168 (0,0))::U.M)) \/
    (0<i/\U'.tok=⟨0,.par F (replicate i XV) false .run,some (.par (Hq lm fb bb z B) (JA Q i))⟩/\U'.M=U.M)),λ i=>b.cans.length-i,0,T1,⟨λ _ _ h=>h,O1,.inl ⟨rfl,be,az⟩⟩,?_⟩
  rintro i f U8⟨ay,hi,ag⟩;have bs:Ze ((i:Int)+1):=by have:=X.six;unfold Ze;omega
  have ah:∀x o,W.I x=some o->U8.I x=some o:=λ x o V=>ay x o (am x o V)
  repeat refine⟨rfl,?_⟩
  conv=>whnf
  apply Qd<;>intro hc
  .have hlt:i<b.cans.length:=by simpa using hc
   obtain⟨ci,af⟩:∃ci,b.cans[i]?=some ci:=⟨_,getElem?_eq_getElem hlt⟩;have h6:=X.six
   have a4:Qb Za 96 #[.pointer (some ⟨F,0,none⟩),.int .i64 1] (λ v U'=>U'.I=U8.I/\U'.tok=⟨0,.par F (replicate i XV) true .run,some (.par (Hq lm fb bb z B) (JA Q i))⟩/\U'.M=U.M) U8:=by
    rcases ag with⟨rfl,T,Y⟩|⟨b2,T,Y⟩
    .refine Qb.make (M₁:=[.obj fb (.cells [.bool false].toArray 4 (0,0)),.obj bb (.cells [.slice none 0 0].toArray 70 (0,0))]) (M₂:=.obj lm (.cells #[Zg 0,Qq 0] 168 (0,0))::U.M) T Y ?_;refine Qb.shift (U':=⟨U8.I,.obj lm (.cells #[Zg 0,Qq 0] 168 (0,0))::([.obj fb (.cells [.bool false].toArray 4 (0,0)),.obj bb (.cells [.slice none 0 0].toArray 70 (0,0))]++U.M),⟨0,.par F [] false .run,none⟩⟩) (HB perm_middle) ?_;refine Qb.makeM (x:=Hq lm fb bb z B) (M₁:=[.obj fb (.cells [.bool false].toArray 4 (0,0)),.obj bb (.cells [.slice none 0 0].toArray 70 (0,0))]) (M₂:=U.M) rfl rfl ⟨none,0,0,[],.nil,(λ x V=>by cases V),rfl⟩ ?_;exact Lu (ds:=[]) S1 rfl ⟨rfl,rfl,rfl⟩
    .exact Lu (ds:=replicate i XV) S3 T ⟨rfl,by show(⟨0,_,U8.tok.mu⟩:Tk)=_;rw[T],Y⟩
   refine⟨Bw,a4.mono ?_⟩;rintro v U9⟨ad,av,aa⟩-;have ai:∀x o,W.I x=some o->U9.I x=some o:=λ x o V=>by rw[ad];exact ah x o V
   conv=>whnf
   intro a ha;rw[Rm];refine Mz ?_;rw[Aj];refine ed λ⟨wd,bz⟩=>?_;have bh:a.eval (.t 15)=.func (.func 86) #[] (HY F H b6 b4 b5 b7 lm fb bb).toArray:=ha.get 15;refine Hm Cd (Wv AA) (.inl rfl) ?_;unfold Gt;simp only[execOp,R7,Qf,Qk,Ol,bh];rw[Ax];have ao:=ha.put (some 26) (.func (.func 86) #[] (HY F H b6 b4 b5 b7 lm fb bb).toArray) (by intro d hd;cases hd;decide);generalize a.put (some 26) (.func (.func 86) #[] (HY F H b6 b4 b5 b7 lm fb bb).toArray)=a1 at ao ⊢;have bi:a1.eval (.t 16)=.int .i64 i:=ao.get 16;refine Hm Ce (Wv AB) (.inl rfl) ?_;unfold Gt;simp only[execOp,R8,Qf,Qk,Ol,bi];rw[Ay];have S:=ao.put (some 27) (.int .i64 i) (by intro d hd;cases hd;decide);generalize a1.put (some 27) (.int .i64 i)=a2 at S ⊢;have bj:a2.eval (.t 26)=.func (.func 86) #[] (HY F H b6 b4 b5 b7 lm fb bb).toArray:=S.get 26
   have bk:(#[]++#[Operand.tmp 27].map a2.eval:Array Value)=#[.int .i64 i]:=by
    have:a2.eval (.t 27)=.int .i64 i:=S.get 27;simp[this]
   obtain⟨ax,mc,bv,ba,bt,bu⟩:∃ax mc,Ot (some (.par (Hq lm fb bb z B) (JA Q i))) ax mc/\ax=some (.par (Hq lm fb bb z B) (JA Q (i+1)))/\(∀s,Q i=some s->mc=some (.lok (Hq lm fb bb z B) s .idle 0))/\(Q i=none->mc=none):=by
    cases hs:Q i with
    |none=>exact⟨_,none,.inl ⟨rfl,rfl⟩,by rw[sP hs],λ s h=>by(cases h),λ _=>rfl⟩
    |some s=>
     obtain⟨u1,u2⟩:=sQ hs X.one;exact⟨_,some (.lok (Hq lm fb bb z B) s .idle 0),.inr ⟨_,_,s,rfl,u1,rfl,rfl⟩,by rw[u2],λ s' h=>by cases h;rfl,λ h=>by cases h⟩
   subst ba
   have b0:DD b r w m i mc lm fb bb z B:=by
    refine⟨λ ci af k q hk au hg=>?_,λ ci af au=>bu (X.no i ci af (vZ au))⟩;obtain⟨s,hs,hL⟩:=X.yes i ci q af (uX hk au hg);exact⟨s,0,bt s hs,hL⟩
   refine ef (D:=XV) (ds:=replicate i XV) (Up:=⟨U9.I,U9.M,⟨0,.par F (replicate (i+1) XV) false .run,some (.par (Hq lm fb bb z B) (JA Q (i+1)))⟩⟩) (Uc:=⟨U9.I,[],⟨0,.wrk F XV,mc⟩⟩) Cf (Wv AC) R9 bj av (MD bz (M₁:=[]) (M₂:=U9.M) (Perm.refl _)) rfl rfl bv (λ Stop=>?_) ?_
   .rw[bk];have bf:=zY (U:=⟨U9.I,[],⟨0,.wrk F XV,mc⟩⟩) h b bc X.n r hr w i (bcan:=H) (bm:=b6) (bbk:=b4) (brt:=b5) (bwt:=b7) (lm:=lm) (fb:=fb) (bb:=bb) (g:=F) hlt (λ U' bfst hI ht bp=>?_) O1 z B X.len X.sym m X.m5 (L.imI ai) mc rfl b0 Stop
    .exact bf
    .have hI6':∀x o,W.I x=some o->U'.I x=some o:=λ x o V=>hI x o (ai x o V);exact⟨⟨ca,cc,N.imI hI6',ap.mem hI6' (λ r hr=>by cases hr),br⟩,bp,G.imI hI6',bq.mem hI6' (λ r hr=>by cases hr),K.imI hI6',ab.imI hI6'⟩
   .refine NB ?_;rw[Az];refine⟨by rw[Act.put,S.size,ha.size],_,S.get,?_⟩;refine⟨bs,by simpa[Act.put]using S.ds,i+1,T1,⟨λ x o V=>by show U9.I x=_;rw[ad];exact ay x o V,O1,.inr ⟨O1,rfl,aa⟩⟩,L1⟩
  .have hge:i=b.cans.length:=by simp at hc;omega
   subst hge
   obtain⟨-,T,Y⟩:0<b.cans.length/\U8.tok=⟨0,.par F (replicate b.cans.length XV) false .run,some (.par (Hq lm fb bb z B) (JA Q b.cans.length))⟩/\U8.M=U.M:=by
    rcases ag with⟨h0,_⟩|ag
    .have:=X.pos;omega
    .exact ag
   have hu:∀s,(if JA Q b.cans.length s then(if s then B else z)else none)=(if s then B else z):=λ s=>by
    cases bx:JA Q b.cans.length s with
    |true=>rfl
    |false=>rw[X.out s bx];rfl
   have aw:Qb Za 97 #[.pointer (some ⟨F,0,none⟩)] (λ v U'=>v=.tuple #[]/\U'.I=U8.I/\U'.tok=⟨0,.out,none⟩/\∃M',VG fb bb (ZF z B) M'/\U'.M=M'++U.M) U8:=by
    refine Qb.post (R:=λ v U'=>v=.tuple #[]/\U'.I=U8.I/\U'.tok=⟨0,.out,none⟩/\∃Ms M',VG fb bb (ZF z B) M'/\U'.M=(U.M++Ms)++M') (xO (ds:=replicate b.cans.length XV) (by simp;exact X.six) T λ Ms M' b8 ac=>⟨rfl,rfl,rfl,Ms.flatten,M',?_,by rw[Y]⟩) λ v U'⟨hv,hI,ht,Ms,M',ac,bl⟩=>?_
    .have h1:=hu false;have h2:=hu true;simp only[Bool.false_eq_true,if_false,if_true]at h1 h2;have:JJ fb bb z B (JA Q b.cans.length false) (JA Q b.cans.length true) M':=ac;unfold JJ at this
     rwa [h1,h2]at this
    .refine⟨{ U' with M:=M'++U.M },Md ⟨Ms,?_⟩,hv,hI,ht,M',ac,rfl⟩;rw[bl,append_assoc,append_assoc];refine(perm_append_comm (l₁:=U.M) (l₂:=Ms++M')).trans ?_;rw[append_assoc];refine(perm_append_comm (l₁:=Ms) (l₂:=M'++U.M)).trans ?_;rw[append_assoc]
   refine⟨Bx,aw.mono ?_⟩;rintro _ U9⟨rfl,ad,av,M',⟨a,l,c,A,hA,-,rfl⟩,aa⟩-;refine⟨_,J2 (b:=bb) (e:=70) (vs:=[.slice a l c]) (by rw[aa];simp) 0 _ rfl,?_⟩;refine⟨_,J2 (b:=fb) (e:=4) (vs:=[.bool (ZF z B).isSome]) (by rw[aa];simp) 0 _ rfl,?_⟩
   conv=>whnf
   intro Ua aq _;refine⟨a,l,c,A,[.obj fb (.cells [.bool (ZF z B).isSome].toArray 4 (0,0)),.obj bb (.cells [.slice a l c].toArray 70 (0,0))],rfl,hA,?_,λ x o V=>aq.imm x o (by rw[ad];exact ah x o (P.imm x o V)),by rw[aq.tok,av,al]⟩;rw[aq.own,aa];refine Perm.trans ?_ (perm_append_comm_assoc [.obj fb (.cells [.bool (ZF z B).isSome].toArray 4 (0,0)),.obj bb (.cells [.slice a l c].toArray 70 (0,0))] A U.M);exact Perm.refl _
 refine bg.okv λ v U' hw⟨a,l,c,A,Z,hv,hA,hM,hI,ht⟩=>?_;obtain⟨U1,k1,k2,k3,a',b3,b1,e,hl,bd,ac⟩:=hA.freeze (O6 hw) hM;cases e;have a9:((ZF z B).getD []).length=l:=by have e:=(Q1 (f:=encII) (n:=2) (λ _=>rfl) ((ZF z B).getD [])).symm.trans hl;omega
 subst a9;exact⟨{ U1 with M:=U.M },k1.trans (Z5 (by rw[k2];exact sublist_append_right ..)),⟨_,hv,a,c,rfl,G5 (enc:=encII) (n:=2) (λ _=>rfl) bd ac D1⟩,⟨λ x o V=>k3.imm x o (hI x o V),rfl,k3.tok.trans ht⟩⟩
end Go.Proofs
namespace Go.TM
def Xr{α:Type}(F:Nat->Option α):Nat->Nat->Option α
 |_,0=>none
 |m,n+1=>match F m with
  |some x=>some x
  |none=>Xr F (m+1) n
def IK{α:Type}(F:Nat->Option α)(m n:Nat):Xr F m (n+1)=match F m with
  |some x=>some x
  |none=>Xr F (m+1) n:=rfl
def Xx(b:Bool):Int:=if b then 1 else 2
def Bk.staF(b:Bk)(r:Int)(e:Bool)(F:Nat->Option (List (Int×Int))):Option (List (Int×Int)):=
 if b.askF r=0 then(if b.fatR r.toNat=Xx e then some []else if b.fatR r.toNat=Xx (!e)then none else Xr F 0 (b.cs.length-1))else none
end Go.TM
namespace Go.Proofs
open Go.TM
attribute [local irreducible] Qb Zh Wh
def HT.nil{T:Type}{U:Qa T}:HT U (.slice none 0 0) []:=⟨none,0,rfl,rfl,λ i x b=>by simp at b⟩
def HT.lg{T:Type}{U U':Qa T}{v:Value}{l:List (Int×Int)}(h:HT U v l)(k:U.lg U'):HT U' v l:=let ⟨a,c,e,h⟩:=h;⟨a,c,e,h.lg k λ _ _ h=>h⟩
set_option maxHeartbeats 1000000 in
def FE{U:Qa Tk}(aa:U.tok=⟨0,.out,none⟩)(h:BH)(b:Bk)(hb:Zp U.frz h b)(hk:WC U)(r:Int)(w:Bool)(F:Nat->Option (List (Int×Int)))
  (hC:b.askF r=0->b.fatR r.toNat≠Xx w->b.fatR r.toNat≠Xx (!w)->∀m,m+1<b.cs.length->(∀N,N<m->F N=none)->∃sd Lf Lt,Gh b r.toNat (Xx w) m sd Lf Lt/\ZF Lf Lt=F m) :
  Qb Za 22 #[h.v,.int .i64 r,.bool w] (λ v U'=>(∃v1,v=.tuple #[v1,.bool (b.staF r w F).isSome,.int .i64 (b.askF r)]/\HT U'.frz v1 ((b.staF r w F).getD []))/\U.le U') U:=by
 refine Qb.grown (R:=λ v U'=>∃v1,v=.tuple #[v1,.bool (b.staF r w F).isSome,.int .i64 (b.askF r)]/\HT U' v1 ((b.staF r w F).getD [])) (λ v U1 U2 hl⟨v1,e,h1⟩=>⟨v1,e,h1.lg hl⟩) (Qb.of (args:=[_,_,_]) Sw Qe S1 ?_);have aj:=hb.cs.1
 repeat refine⟨rfl,?_⟩
 conv=>whnf
 intro B U1 Z hB;have hB:Zf U1 B #[.slice h.ra h.rl h.rc,.slice h.ca h.cl h.cc]:=hB;refine⟨_,⟨rfl,hB.rd⟩,?_⟩;refine⟨Vd.any,(K6 h b (hb.lg Z.lg.frz2) (hk.lg Z.lg) r).go λ _=>?_⟩
 conv=>whnf
 intro b9 ag;refine⟨_,.refl _,?_⟩;by_cases hF:b.askF r=0
 .obtain⟨hok,hr0,M⟩:=Bk.askF_ok hF;obtain⟨q,rfl⟩:=Int.eq_ofNat_of_zero_le hr0;have hq:q<b.rs.length:=by unfold Bk.nr at M;omega
  have ak:=hok.nc;have ac:b.staF (q:Int) w F=(if b.fatR q=Xx w then some []else if b.fatR q=Xx (!w)then none else Xr F 0 (b.cs.length-1)):=by unfold Bk.staF;rw[if_pos hF,Int.toNat_natCast]
  have hC:=hC hF;rw[Int.toNat_natCast]at hC;rw[if_pos hF,hF,ac];refine⟨rfl,Zu (vs:=[.slice h.ra h.rl h.rc,.slice h.ca h.cl h.cc]) ag rfl (by simp[Value.single]) λ U2 af P=>?_⟩;have P:Zf U2 b9 #[.slice h.ra h.rl h.rc,.slice h.ca h.cl h.cc]:=P;have E:=Z.trans af;have hB:=hB.le af;have V:=V_ (S:=Za) (U:=U2) h b (hb.lg E.lg.frz2) hok q hq;cases w with
  |true=>
   have ad:Xx true=1:=rfl;have ae:Xx (!true)=2:=rfl;rw[ad,ae]at hC ⊢
   repeat refine⟨rfl,?_⟩
   refine⟨_,⟨rfl,P.rd⟩,?_⟩;refine⟨GM.any,V.go λ _=>?_⟩
   repeat refine⟨rfl,?_⟩
   conv=>whnf
   apply Qd<;>intro I
   .have X:b.fatR q=1:=by simpa using I
    rw[if_pos X]
    repeat refine⟨rfl,?_⟩
    conv=>whnf
    exact⟨⟨_,rfl,.nil⟩,E.lg⟩
   have X:b.fatR q≠1:=by simpa using I
   rw[if_neg X]
   repeat refine⟨rfl,?_⟩
   conv=>whnf
   apply Qd<;>intro I
   .have Y:b.fatR q=2:=by simpa using I
    rw[if_pos Y]
    repeat refine⟨rfl,?_⟩
    conv=>whnf
    exact⟨⟨_,rfl,.nil⟩,E.lg⟩
   have Y:b.fatR q≠2:=by simpa using I
   rw[if_neg Y]
   refine⟨Nat,λ m=>[(1,.int .i64 q),(3,.pointer (some ⟨B,0,none⟩)),(9,.pointer (some ⟨b9,0,none⟩)),(10,.int .i64 1),(12,.int .i64 (m+1:Nat))],
    λ m U'=>U2.le U'/\(m=0\/m+1<=b.cs.length)/\(∀N,N<m->F N=none)/\Xr F 0 (b.cs.length-1)=Xr F m (b.cs.length-1-m),λ m=>b.cs.length-m,0,T1,⟨.refl _,.inl rfl,S1,rfl⟩,?_⟩
   rintro m f U3⟨K,hm,W,z⟩;have ab:Ze (((m+1:Nat):Int)+1):=I1
   have G:=E.trans K;refine⟨_,(hB.le K).sees3 (o:=1) rfl,?_⟩
   repeat refine⟨rfl,?_⟩
   conv=>whnf
   apply Qd<;>intro I
   .have hlt:m+1<b.cs.length:=by simp at I;omega
    obtain⟨sd,Lf,Lt,hD,T⟩:=hC X Y m hlt W;rw[show b.cs.length-1-m=(b.cs.length-1-(m+1))+1 by omega,IK]at z;refine⟨_,⟨rfl,(P.le K).rd⟩,?_⟩;refine⟨Sj.any,(Fw (U:=U3) (G.tok.trans aa) h b (hb.lg G.lg.frz2) hok q hq 1 m hD).mono ?_⟩;rintro _ U4⟨⟨v1,rfl,H⟩,Q⟩-;rw[T]at H ⊢;cases L:F m with
    |some x=>
     rw[L]at H z;obtain⟨a1,c1,rfl,M⟩:=H;rw[z]
     repeat refine⟨rfl,?_⟩
     conv=>whnf
     exact⟨⟨_,rfl,⟨a1,c1,rfl,M⟩⟩,(G.trans Q).lg⟩
    |none=>
     rw[L]at H z;obtain⟨a1,c1,rfl,M⟩:=H
     repeat refine⟨rfl,?_⟩
     refine⟨ab,?_⟩
     conv=>whnf
     exact⟨rfl,m+1,T1,⟨K.trans Q,.inr O1,λ N ai=>by
      by_cases e:N=m
      .rw[e];exact L
      .exact W N O1,z⟩,L1⟩
   .have hge:b.cs.length<=m+1:=by simp at I;omega
    rw[show b.cs.length-1-m=0 by omega]at z;have z:Xr F 0 (b.cs.length-1)=none:=z;rw[z]
    repeat refine⟨rfl,?_⟩
    conv=>whnf
    exact⟨⟨_,rfl,.nil⟩,G.lg⟩
  |false=>
   have ad:Xx false=2:=rfl;have ae:Xx (!false)=1:=rfl;rw[ad,ae]at hC ⊢
   repeat refine⟨rfl,?_⟩
   refine⟨_,⟨rfl,P.rd⟩,?_⟩;refine⟨GM.any,V.go λ _=>?_⟩
   repeat refine⟨rfl,?_⟩
   conv=>whnf
   apply Qd<;>intro I
   .have X:b.fatR q=2:=by simpa using I
    rw[if_pos X]
    repeat refine⟨rfl,?_⟩
    conv=>whnf
    exact⟨⟨_,rfl,.nil⟩,E.lg⟩
   have X:b.fatR q≠2:=by simpa using I
   rw[if_neg X]
   repeat refine⟨rfl,?_⟩
   conv=>whnf
   apply Qd<;>intro I
   .have Y:b.fatR q=1:=by simpa using I
    rw[if_pos Y]
    repeat refine⟨rfl,?_⟩
    conv=>whnf
    exact⟨⟨_,rfl,.nil⟩,E.lg⟩
   have Y:b.fatR q≠1:=by simpa using I
   rw[if_neg Y]
   refine⟨Nat,λ m=>[(1,.int .i64 q),(3,.pointer (some ⟨B,0,none⟩)),(9,.pointer (some ⟨b9,0,none⟩)),(10,.int .i64 2),(12,.int .i64 (m+1:Nat))],
    λ m U'=>U2.le U'/\(m=0\/m+1<=b.cs.length)/\(∀N,N<m->F N=none)/\Xr F 0 (b.cs.length-1)=Xr F m (b.cs.length-1-m),λ m=>b.cs.length-m,0,T1,⟨.refl _,.inl rfl,S1,rfl⟩,?_⟩
   rintro m f U3⟨K,hm,W,z⟩;have ab:Ze (((m+1:Nat):Int)+1):=I1
   have G:=E.trans K;refine⟨_,(hB.le K).sees3 (o:=1) rfl,?_⟩
   repeat refine⟨rfl,?_⟩
   conv=>whnf
   apply Qd<;>intro I
   .have hlt:m+1<b.cs.length:=by simp at I;omega
    obtain⟨sd,Lf,Lt,hD,T⟩:=hC X Y m hlt W;rw[show b.cs.length-1-m=(b.cs.length-1-(m+1))+1 by omega,IK]at z;refine⟨_,⟨rfl,(P.le K).rd⟩,?_⟩;refine⟨Sj.any,(Fw (U:=U3) (G.tok.trans aa) h b (hb.lg G.lg.frz2) hok q hq 2 m hD).mono ?_⟩;rintro _ U4⟨⟨v1,rfl,H⟩,Q⟩-;rw[T]at H ⊢;cases L:F m with
    |some x=>
     rw[L]at H z;obtain⟨a1,c1,rfl,M⟩:=H;rw[z]
     repeat refine⟨rfl,?_⟩
     conv=>whnf
     exact⟨⟨_,rfl,⟨a1,c1,rfl,M⟩⟩,(G.trans Q).lg⟩
    |none=>
     rw[L]at H z;obtain⟨a1,c1,rfl,M⟩:=H
     repeat refine⟨rfl,?_⟩
     refine⟨ab,?_⟩
     conv=>whnf
     exact⟨rfl,m+1,T1,⟨K.trans Q,.inr O1,λ N ai=>by
      by_cases e:N=m
      .rw[e];exact L
      .exact W N O1,z⟩,L1⟩
   .have hge:b.cs.length<=m+1:=by simp at I;omega
    rw[show b.cs.length-1-m=0 by omega]at z;have z:Xr F 0 (b.cs.length-1)=none:=z;rw[z]
    repeat refine⟨rfl,?_⟩
    conv=>whnf
    exact⟨⟨_,rfl,.nil⟩,G.lg⟩
 .have ac:b.staF r w F=none:=by unfold Bk.staF;rw[if_neg hF]
  rw[if_neg hF,ac];refine⟨rfl,Zu (vs:=[.slice none 0 0,.slice none 0 0]) ag rfl (by simp[Value.single]) λ U3 ah _=>?_⟩
  repeat refine⟨rfl,?_⟩
  conv=>whnf
  apply Qd<;>intro I
  .repeat refine⟨rfl,?_⟩
   conv=>whnf
   exact⟨⟨_,rfl,.nil⟩,(Z.trans ah).lg⟩
  .exact absurd (by simpa using I) hF
end Go.Proofs

