/- Lemmas. No conditions. -/
import Derived.Test.YtcakpkianonbkaaGreatDoorB42
import Derived.Test.YtcakpkianonbkaaGreatDoorB37
import Derived.Test.YtcakpkianonbkaaGreatDoorB05
import Derived.Test.YtcakpkianonbkaaGreatDoorB33
set_option linter.all false
open List
open Go.Proofs.Tryz (prog)
set_option maxRecDepth 100000
namespace Go.TM
variable{T:Type}{P:Program}{S:Sys P T}{U U':Qa T}
abbrev woB(mb b10 wb b4:Nat)(r v:Value)(E:List (Int×Value))(L:List Nat)(M:List Qv):List Qv:=
 .obj mb (Qt Qbg E)::.obj b10 (.cells [r,v].toArray 43 (0,0))::.obj wb (.cells (Qf1 L).toArray 3 (0,0))::.obj b4 (.cells [.slice none 0 0,.slice none 0 0].toArray 90 (0,0))::M
def Jq(K:List Nat):List (Int×Value):=Qg5 K.length (λ p=>(K.getD p 0:Nat)) λ p=>.int .i64 (p:Nat)
def Q5z(K:List Nat):(Jq K).length=K.length:=Q6u _ _ _
def Zfc{K:List Nat}{p:Nat}(h:p<K.length):(Jq K)[p]?=some (((K.getD p 0:Nat):Int),.int .i64 (p:Nat)):=Q1s h
def Znw{K:List Nat}(hn:K.Nodup){q r:Nat}(hq:q<K.length)(hr:r<K.length)(h:K.getD q 0=K.getD r 0):q=r:=by
 simp only[getD_eq_getElem?_getD,getElem?_eq_getElem hq,getElem?_eq_getElem hr,Option.getD_some]at h;exact(getElem_inj hn).1 h
def Qvq{K:List Nat}{q:Nat}(hq:q<K.length):K.getD q 0∈K:=by
 simp only[getD_eq_getElem?_getD,getElem?_eq_getElem hq,Option.getD_some];exact getElem_mem hq
def Zi6{K:List Nat}{k:Nat}(h:k∉K):ups ((k:Nat):Int) (.int .i64 (K.length:Nat)) (Jq K)=Jq (K++[k]):=by
 have h1:=(Qgj (m:=K.length) (k:=((k:Nat):Int)) (ky:=λ p=>(K.getD p 0:Nat)) (vl:=λ p=>.int .i64 (p:Nat)) λ q hq e=>h (by
  have e':K.getD q 0=k:=Int.ofNat.inj e;rw[<- e'];exact Qvq hq)).2 (.int .i64 (K.length:Nat))
 unfold Jq;rw[h1,length_append,length_cons,length_nil,Qzr];congr 1
 .refine Zek λ p hp=>⟨?_,rfl⟩;rw[getD_eq_getElem?_getD,getD_eq_getElem?_getD,getElem?_append_left hp]
 .simp[getD_eq_getElem?_getD]
def Zqa{K:List Nat}(hn:K.Nodup){p:Nat}(hp:p<K.length):lk ((K.getD p 0:Nat):Int) (Jq K)=some (.int .i64 (p:Nat)):=
 Zfl (m:=K.length) (ky:=λ p=>((K.getD p 0:Nat):Int)) (vl:=λ p=>.int .i64 (p:Nat)) hp λ q r hq hr e=>Znw hn hq hr (Int.ofNat.inj e)
def Znz{K:List Nat}{k:Nat}(h:k∉K):lk ((k:Nat):Int) (Jq K)=none:=
 (Qgj (m:=K.length) (ky:=λ p=>((K.getD p 0:Nat):Int)) (vl:=λ p=>.int .i64 (p:Nat)) λ q hq e=>h (by
  have e':K.getD q 0=k:=Int.ofNat.inj e;rw[<- e'];exact Qvq hq)).1
def Zff{f:Nat->Bool}{j:Nat}:∀{n:Nat},j<=n->∃Y,Bk.kpt f n=Bk.kpt f j++Y
 |0,h=>⟨[],by rw[Nat.le_zero.1 h];simp⟩
 |n+1,h=>by
  by_cases e:j=n+1
  .exact⟨[],by rw[e];simp⟩
  .obtain⟨Y,hY⟩:=Zff (f:=f) (j:=j) (n:=n) (by omega);cases hf:f n with
   |true=>exact⟨Y,by rw[Bk.kpt_out hf,hY]⟩
   |false=>exact⟨Y++[n],by rw[Bk.kpt_in hf,hY,append_assoc]⟩
def Zqd{f:Nat->Bool}{j n:Nat}(h:j<n)(hf:f j=false):(Bk.kpt f j).length<(Bk.kpt f n).length/\(Bk.kpt f n).getD (Bk.kpt f j).length 0=j:=by
 obtain⟨Y,hY⟩:=Zff (f:=f) (show j+1<=n by omega);rw[Bk.kpt_in hf]at hY;rw[hY];constructor
 .simp
 .simp[getD_eq_getElem?_getD]
end Go.TM
namespace Go.Proofs
open Go.TM
variable{T:Type}{S:TM.Sys prog T}{U:Qa T}
attribute [local irreducible] Qb Zh We
set_option maxHeartbeats 4000000 in
def Qgu(h:BH)(b:Bk)(hb:Zt U.frz h b)(hok:b.Ok)(o:Nat)(ho:o<2^60):Qb S 40 #[h.v,.int .i64 o] (λ v U'=>(∃h':BH,v=h'.v/\Zt U'.frz h' (b.wo o.testBit)/\h'.rl<=h'.rc)/\U.le U') U:=by
 have hcl:=hb.cs.1;have hrl:=hb.rs.1;have hnc:=hok.nc;have hnr:=hok.nr;obtain⟨i3,i3a,i3b,i3c,i3d⟩:=Zew;generalize hW0:wlN o.testBit b.cs.length b.cs.length (b.A.map Ja)=W;have hW:=hok.wlW o.testBit;rw[hW0]at hW
 have hWB0:WB b.cs.length 5 (b.A.map Ja):=⟨by simp[b.A_length],λ x hx=>by
  obtain⟨l,hl,rfl⟩:=mem_map.1 hx;refine Nat.lt_of_lt_of_le (Zpr (n:=5) λ k hk=>?_) (Nat.le_refl _);simp only[Bk.A,mem_map]at hl;obtain⟨c,hc,rfl⟩:=hl;obtain⟨n,hn,rfl⟩:=mem_map.1 hk;have:=hok.af c hc n hn;unfold Bk.nc at this;omega⟩
 have main:Qb S 40 #[h.v,.int .i64 o] (λ v U'=>(∃(h':BH)(Z:List Qv),v=h'.v/\Qa3 U' h' (b.wo o.testBit) (Z++U.M))/\(∀x q,U.I x=some q->U'.I x=some q)/\U'.tok=U.tok) U:=by
  refine Qb.of (args:=[_,_]) Qsl Qd (by simp) ?_
  repeat refine⟨rfl,?_⟩
  conv=>whnf
  intro B U1 h_1 hB;have hB:Zd U1 B #[.slice h.ra h.rl h.rc,.slice h.ca h.cl h.cc]:=hB
  conv=>whnf
  intro b4 hf4;refine⟨_,.refl _,?_⟩;have hlp:=Z0 (U:=U1) b4 (.cells #[.slice none 0 0,.slice none 0 0] 90);refine⟨_,(hB.lg hlp).sees3 (o:=1) rfl,?_⟩
  conv=>whnf
  refine Qmj (n:=h.cl) Qh0 i3a i3b rfl i3c (by omega) rfl rfl (by omega) λ wb hwb=>?_;have hlp2:=hlp.trans (Z0 (U:=U1.put b4 (.cells #[.slice none 0 0,.slice none 0 0] 90)) wb (.cells (replicate h.cl (Value.int .i64 0)).toArray 3));refine⟨_,(hB.lg hlp2).sees3 (o:=1) rfl,Nat,λ i=>[(1,.int .i64 o),(2,.pointer (some ⟨B,0,none⟩)),(4,.pointer (some ⟨b4,0,none⟩)),(5,.slice (some ⟨wb,0,none⟩) h.cl h.cl),(26,.slice h.ca h.cl h.cc),(27,.int .i64 h.cl),(28,.int .i64 i)],
   λ i U'=>U1.frz.lg U'/\i<=h.cl/\U'.M=.obj wb (.cells (Qf1 (Qjr (b.A.map Ja) h.cl i)).toArray 3 (0,0))::.obj b4 (.cells [.slice none 0 0,.slice none 0 0].toArray 90 (0,0))::U.M,λ i=>h.cl-i,0,by trivial,⟨Qq.trans hlp2,by omega,?_⟩,?_⟩
  .rw[Zds,<- Zjc];show _::_::U1.M=_;rw[h_1.own]
  rintro i f U2⟨hlg,hi,hM⟩;have hin:Zm ((i:Int)+1):=by unfold Zm;omega
  repeat refine⟨rfl,?_⟩
  conv=>whnf
  apply Qe<;>intro hc
  .have hlt:i<h.cl:=by simpa using hc
   obtain⟨ad,c,ga,gl,gc,aa,al,ac,hx,hea,hspa,hrd,-,-,ha,hal,hmem⟩:=(hb.lg (h_1.lg.frz2.trans hlg.frz2)).case hlt;have haf60:=hok.toLow.lt hmem;refine⟨ad,i,⟨hea,rfl,hlt⟩,_,⟨rfl,hrd.lg Qq⟩,?_⟩
   conv=>whnf
   intro b7 hf7;refine⟨_,.refl _,rfl,Zs (vs:=[.string c.nm,.int .i64 c.ag,.slice ga gl gc,.slice aa al ac]) hf7 rfl (by simp[Value.single]) λ U3 h_3 hb7=>?_⟩;refine⟨_,hb7.sees3 (o:=3) rfl,Qa6.any,(Jd aa al ac c.af ((ha.lg h_3.lg.frz2).lg Qq) hal haf60).go λ _=>?_⟩;have hXi:(b.A.map Ja)[i]?=some (Ja (c.af.map Int.toNat)):=by simp[Bk.A,hx]
   have hfl:=Zi2 (X:=b.A.map Ja) (n:=h.cl) (i:=i) (by simp[b.A_length,hcl]) hi;refine⟨⟨wb,0,none⟩,i,⟨rfl,rfl,hlt⟩,rfl,?_⟩;rw[Nat.mul_one];refine Qbk (i:=i) (v:=.int .i64 (Ja (c.af.map Int.toNat):Nat)) [] (h_3.own.trans hM) (by simp[Q6a,hfl];omega) rfl λ U4 hI_4 ht4 hM4=>?_;rw[Q6b,Zi3 hXi (by simp[b.A_length,hcl])]at hM4;refine⟨hin,?_⟩
   conv=>whnf
   exact⟨rfl,i+1,by trivial,⟨⟨λ x q hx=>by rw[hI_4];exact h_3.imm x q (hlg.imm x q hx),⟨_,(append_nil _).symm⟩,ht4.trans (h_3.tok.trans hlg.tok)⟩,by omega,hM4⟩,by show _-_<_-_;omega⟩
  have hge:i=h.cl:=by simp at hc;omega
  subst hge;rw[Zi1 (by simp[b.A_length,hcl])]at hM;refine⟨_,(hB.imI hlg.imm).sees3 (o:=1) rfl,Nat×List Nat,λ y=>[(1,.int .i64 o),(2,.pointer (some ⟨B,0,none⟩)),(4,.pointer (some ⟨b4,0,none⟩)),(5,.slice (some ⟨wb,0,none⟩) h.cl h.cl),(43,.int .i64 h.cl),(44,.int .i64 y.1)],
   λ y U'=>U1.frz.lg U'/\y.1<=h.cl/\U'.M=.obj wb (.cells (Qf1 y.2).toArray 3 (0,0))::.obj b4 (.cells [.slice none 0 0,.slice none 0 0].toArray 90 (0,0))::U.M/\WB h.cl 5 y.2/\wlN o.testBit h.cl (h.cl-y.1) y.2=W,λ y=>h.cl-y.1,(0,b.A.map Ja),by trivial,⟨hlg,by omega,hM,by rw[<- hcl];exact hWB0,by rw[<- hW0,hcl];rfl⟩,?_⟩
  clear hM hlg hin hi;rintro⟨r,L⟩f U2⟨hlg,hr,hM,hwb5,hinv⟩;simp only at hr hM hwb5 hinv;have hinr:Zm ((r:Int)+1):=by unfold Zm;omega
  repeat refine⟨rfl,?_⟩
  conv=>whnf
  apply Qe<;>intro hc
  .have hrt:r<h.cl:=by simpa using hc
   rw[show h.cl-r=(h.cl-(r+1))+1 by omega]at hinv
   refine⟨Nat,λ i=>[(1,.int .i64 o),(2,.pointer (some ⟨B,0,none⟩)),(4,.pointer (some ⟨b4,0,none⟩)),(5,.slice (some ⟨wb,0,none⟩) h.cl h.cl),(43,.int .i64 h.cl),(44,.int .i64 r),(47,.int .i64 h.cl),(48,.int .i64 i)],
    λ i U'=>U1.frz.lg U'/\i<=h.cl/\U'.M=.obj wb (.cells (Qf1 (Qxk o.testBit h.cl L i)).toArray 3 (0,0))::.obj b4 (.cells [.slice none 0 0,.slice none 0 0].toArray 90 (0,0))::U.M,λ i=>h.cl-i,0,by trivial,⟨hlg,by omega,hM⟩,?_⟩
   rintro i f U3⟨hlg_3,hi,hM_3⟩;have hin:Zm ((i:Int)+1):=by unfold Zm;omega
   have hwr:=hwb5.rto (out:=o.testBit) i
   repeat refine⟨rfl,?_⟩
   conv=>whnf
   apply Qe<;>intro hc
   .have hit:i<h.cl:=by simpa using hc
    refine⟨_,(hB.imI hlg_3.imm).sees3 (o:=1) rfl,Nat,λ k=>[(1,.int .i64 o),(2,.pointer (some ⟨B,0,none⟩)),(4,.pointer (some ⟨b4,0,none⟩)),(5,.slice (some ⟨wb,0,none⟩) h.cl h.cl),(8,.int .i64 i),(43,.int .i64 h.cl),(44,.int .i64 r),(47,.int .i64 h.cl),(48,.int .i64 i),(54,.int .i64 h.cl),(55,.int .i64 k)],
     λ k U'=>U1.frz.lg U'/\k<=h.cl/\U'.M=.obj wb (.cells (Qf1 (Q6x o.testBit i (Qxk o.testBit h.cl L i) k)).toArray 3 (0,0))::.obj b4 (.cells [.slice none 0 0,.slice none 0 0].toArray 90 (0,0))::U.M,λ k=>h.cl-k,0,by trivial,⟨hlg_3,by omega,hM_3⟩,?_⟩
    rintro k f U4⟨hlg_4,hk,hM4⟩;have hink:Zm ((k:Int)+1):=by unfold Zm;omega
    have hwl:=hwr.to (out:=o.testBit) (i:=i) k;have hsucc:=Qzv o.testBit i (Qxk o.testBit h.cl L i) k;generalize hLk:Q6x o.testBit i (Qxk o.testBit h.cl L i) k=Lk at hM4 hwl hsucc;unfold wl1 at hsucc;have h60:∀j,Lk.getD j 0<2^60:=λ j=>Nat.lt_trans (hwl.at j) (by decide)
    have hrd:∀j,j<h.cl->U4.sees ((Addr.mk wb 0 none).add (j*1)) (.int .i64 (Lk.getD j 0:Nat)):=λ j hj=>by
     rw[Nat.mul_one];exact Q7 [] hM4 j _ (Zfn (by rw[hwl.len];exact hj))
    repeat refine⟨rfl,?_⟩
    conv=>whnf
    apply Qe<;>intro hc
    .have hkt:k<h.cl:=by simpa using hc
     have hbit:=Qva (h60 i) (show k<60 by omega);have hbo:=Qva ho (show k<60 by omega);refine⟨⟨wb,0,none⟩,i,⟨rfl,rfl,hit⟩,_,hrd i hit,by omega,?_⟩
     repeat refine⟨rfl,?_⟩
     conv=>whnf
     apply Zc<;>intro hc
     .have hb1:(Lk.getD i 0).testBit k=true:=hbit.symm.trans hc;rw[hb1,Bool.true_and]at hsucc;refine⟨by omega,?_⟩
      repeat refine⟨rfl,?_⟩
      conv=>whnf
      apply Qe<;>intro hc
      .have hb2:o.testBit k=true:=hbo.symm.trans hc;rw[if_pos hb2]at hsucc;refine⟨⟨wb,0,none⟩,i,⟨rfl,rfl,hit⟩,_,hrd i hit,⟨wb,0,none⟩,k,⟨rfl,rfl,hkt⟩,_,hrd k hkt,?_⟩
       conv=>whnf
       intro U5 h_5 _;refine⟨rfl,⟨wb,0,none⟩,i,⟨rfl,rfl,hit⟩,rfl,?_⟩;rw[Nat.mul_one];refine Qbk (i:=i) [] (h_5.own.trans hM4) (by simp[Q6a,hwl.len];omega) rfl λ U6 hI_6 ht_6 hM_6=>?_
       have hM6':U6.M=.obj wb (.cells (Qf1 (Q6x o.testBit i (Qxk o.testBit h.cl L i) (k+1))).toArray 3 (0,0))::.obj b4 (.cells [.slice none 0 0,.slice none 0 0].toArray 90 (0,0))::U.M:=by
        rw[hsucc,<- Q6b,<- Zn9 (h60 i) (h60 k)];exact hM_6
       refine⟨hink,?_⟩
       conv=>whnf
       exact⟨rfl,k+1,by trivial,⟨⟨λ x q hx=>by rw[hI_6];exact h_5.imm x q (hlg_4.imm x q hx),⟨_,(append_nil _).symm⟩,ht_6.trans (h_5.tok.trans hlg_4.tok)⟩,by omega,hM6'⟩,by show _-_<_-_;omega⟩
      .have hb2:o.testBit k=false:=hbo.symm.trans hc;rw[hb2,if_neg (by simp)]at hsucc;refine⟨hink,?_⟩
       conv=>whnf
       exact⟨rfl,k+1,by trivial,⟨hlg_4,by omega,by rw[hsucc];exact hM4⟩,by show _-_<_-_;omega⟩
     .have hb1:(Lk.getD i 0).testBit k=false:=hbit.symm.trans hc;rw[hb1,Bool.false_and,if_neg (by simp)]at hsucc;refine⟨hink,?_⟩
      conv=>whnf
      exact⟨rfl,k+1,by trivial,⟨hlg_4,by omega,by rw[hsucc];exact hM4⟩,by show _-_<_-_;omega⟩
    .have hge:k=h.cl:=by simp at hc;omega
     subst hge;rw[Q6y,<- Qzx]at hLk;subst hLk;refine⟨hin,?_⟩
     conv=>whnf
     exact⟨rfl,i+1,by trivial,⟨hlg_4,by omega,hM4⟩,by show _-_<_-_;omega⟩
   .have hge:i=h.cl:=by simp at hc;omega
    subst hge;refine⟨hinr,?_⟩
    conv=>whnf
    exact⟨rfl,(r+1,Qxk o.testBit h.cl L h.cl),by trivial,⟨hlg_3,by show r+1<=h.cl;omega,hM_3,hwr,hinv⟩,by show _-_<_-_;omega⟩
  have hge:r=h.cl:=by simp at hc;omega
  subst hge;rw[Nat.sub_self]at hinv;obtain rfl:L=W:=hinv;have h60:∀j,L.getD j 0<2^60:=λ j=>Nat.lt_trans (hwb5.at j) (by decide);have hf_2:U.frz.lg U2.frz:=h_1.lg.frz2.trans hlg.frz2;refine⟨_,(hB.imI hlg.imm).sees3 (o:=0) rfl,Qst.any,(Qhj h.ra h.rl h.rc b.rs ((hb.rs.lg hf_2 λ _ _ h=>h).lg Qq λ _ _ h=>h) (by omega)).mono ?_⟩;rintro _ U3⟨⟨ra,rl,rc,rfl,hroom,hrs⟩,h_3⟩-
  conv=>whnf
  intro b10 hf10;refine⟨_,.refl _,rfl,Qgn (vs:=[.slice ra rl rc,.slice none 0 0]) rfl (by simp[Value.single]) ?_⟩
  conv=>whnf
  refine Qck Qbg λ mb hmb=>?_;have hlg_3:U1.frz.lg U3:=hlg.trans h_3.lg;have hrl3:=hrs.1
  let K:Nat->List Nat:=λ j=>Bk.kpt o.testBit j
  have hM_3:((U3.put b10 (.cells [.slice ra rl rc,.slice none 0 0].toArray 43)).put mb (Qt Qbg [])).M=woB mb b10 wb b4 (.slice ra rl rc) (.slice none 0 0) (Jq (K 0)) L U.M:=by
   show _::_::U3.M=_;rw[h_3.own,hM];rfl
  have hlg4:U1.frz.lg ((U3.put b10 (.cells [.slice ra rl rc,.slice none 0 0].toArray 43)).put mb (Qt Qbg [])):=⟨hlg_3.imm,⟨_,(append_nil _).symm⟩,hlg_3.tok⟩;have hrs4:Qx ((U3.put b10 (.cells [.slice ra rl rc,.slice none 0 0].toArray 43)).put mb (Qt Qbg [])).frz ra rl 1 b.rs λ s vs=>vs=[.string s]:=hrs;generalize((U3.put b10 (.cells [.slice ra rl rc,.slice none 0 0].toArray 43)).put mb (Qt Qbg []))=U4 at hM_3 hlg4 hrs4 ⊢;refine⟨_,(hB.imI hlg4.imm).sees3 (o:=1) rfl,Nat×Value,λ y=>[(1,.int .i64 o),(2,.pointer (some ⟨B,0,none⟩)),(4,.pointer (some ⟨b4,0,none⟩)),(5,.slice (some ⟨wb,0,none⟩) h.cl h.cl),(10,.pointer (some ⟨b10,0,none⟩)),(11,.map (some mb)),(94,.slice h.ca h.cl h.cc),(95,.int .i64 h.cl),(96,.int .i64 y.1)],
   λ y U'=>U4.frz.lg U'/\y.1<=h.cl/\∃(ps:List (Cs×Qao))(A:List Qv),ps.map (·.1)=b.woL (K y.1) (λ _=>[])/\(∀p∈ps,Qco U' p/\p.2.F=[])/\Jx 48 4 y.2 (ps.flatMap Qcq) A/\U'.M=A++woB mb b10 wb b4 (.slice ra rl rc) y.2 (Jq (K y.1)) L U.M,λ y=>h.cl-y.1,(0,.slice none 0 0),by trivial,⟨⟨λ _ _ h=>h,⟨_,(append_nil _).symm⟩,rfl⟩,by omega,[],[],rfl,by simp,.nil,hM_3⟩,?_⟩
  clear hM hlg hM_3 h_3 hlg_3 hf10 hmb;rintro⟨i,v⟩f U5⟨hlg,hi,ps,A,hps,hpok,hacc,hM⟩;simp only at hps hacc hM hi;obtain⟨sa,sl,sc,rfl,hsl⟩:=hacc.src;rw[Q0 Z2]at hsl
  have hpl:ps.length=(K i).length:=by
   have:=congrArg List.length hps
   rwa [length_map,Bk.woL_len]at this
  have hKi:(K i).length<=i:=Bk.kpt_len i;have hin:Zm ((i:Int)+1):=by unfold Zm;omega
  have hlg15:U1.frz.lg U5:=⟨λ x q hx=>hlg.imm x q (hlg4.imm x q hx),⟨_,(append_nil _).symm⟩,hlg.tok.trans hlg4.tok⟩
  repeat refine⟨rfl,?_⟩
  conv=>whnf
  apply Qe<;>intro hc
  .have hlt:i<h.cl:=by simpa using hc
   have hbo:=Qva ho (show i<60 by omega);obtain⟨ad,c,ga,gl,gc,aa,al,ac,hx,hea,hspa,hrd,hgs,hgl,ha,hal,hmem⟩:=(hb.lg (h_1.lg.frz2.trans hlg15.frz2)).case hlt;have hcas:=Bk.cas_at hx;have hg3:=hok.gs c hmem;have hgl3:=hok.gl c hmem;have hcnm:=hb.cn c hmem;have hcl5:=(hok.asc hmem).1;have hgll:=hgs.1;have hall:=ha.1;refine⟨ad,i,⟨hea,rfl,hlt⟩,_,⟨rfl,hrd.lg Qq⟩,?_⟩
   conv=>whnf
   intro b13 hf13;refine⟨_,.refl _,?_⟩;cases hbt:o.testBit i with
   |true=>
    have hK1:K (i+1)=K i:=Bk.kpt_out hbt;refine⟨rfl,Zs (vs:=[.string c.nm,.int .i64 c.ag,.slice ga gl gc,.slice aa al ac]) hf13 rfl (by simp[Value.single]) λ U6 h_6 _=>?_⟩;refine⟨by omega,?_⟩
    repeat refine⟨rfl,?_⟩
    conv=>whnf
    apply Qe<;>intro hc
    .refine⟨hin,?_⟩
     conv=>whnf
     exact⟨rfl,(i+1,.slice sa sl sc),by trivial,⟨hlg.trans h_6.lg,by show i+1<=h.cl;omega,ps,A,by show _=b.woL (K (i+1)) _;rw[hK1];exact hps,λ p hp=>⟨(hpok p hp).1.lg h_6.lg.frz2,(hpok p hp).2⟩,hacc,by show _=A++woB mb b10 wb b4 _ _ (Jq (K (i+1))) L U.M;rw[hK1];exact h_6.own.trans hM⟩,by show _-_<_-_;omega⟩
    .have:=hbo.symm.trans hc;rw[hbt]at this;cases this
   |false=>
    have hK1:K (i+1)=K i++[i]:=Bk.kpt_in hbt;have hnot:i∉K i:=λ hm=>absurd (Bk.kpt_lt hm).1 (Nat.lt_irrefl _);refine⟨rfl,Qgn (vs:=[.string c.nm,.int .i64 c.ag,.slice ga gl gc,.slice aa al ac]) rfl (by simp[Value.single]) ?_⟩
    have hM6:(U5.put b13 (.cells [.string c.nm,.int .i64 c.ag,.slice ga gl gc,.slice aa al ac].toArray 48)).M=(.obj b13 (.cells [.string c.nm,.int .i64 c.ag,.slice ga gl gc,.slice aa al ac].toArray 48 (0,0))::A)++woB mb b10 wb b4 (.slice ra rl rc) (.slice sa sl sc) (Jq (K i)) L U.M:=by
     show _::U5.M=_;rw[hM];rfl
    have hz6:U5.frz.lg (U5.put b13 (.cells [.string c.nm,.int .i64 c.ag,.slice ga gl gc,.slice aa al ac].toArray 48)):=⟨λ _ _ h=>h,⟨_,(append_nil _).symm⟩,rfl⟩;generalize(U5.put b13 (.cells [.string c.nm,.int .i64 c.ag,.slice ga gl gc,.slice aa al ac].toArray 48))=U6 at hM6 hz6 ⊢;refine⟨by omega,?_⟩
    repeat refine⟨rfl,?_⟩
    conv=>whnf
    apply Qe<;>intro hc
    .have:=hbo.symm.trans hc;rw[hbt]at this;cases this
    refine⟨_,(J2 (b:=b10) (e:=43) (vs:=[.slice ra rl rc,.slice sa sl sc]) (by rw[hM6];simp)).cell (i:=1) rfl,?_⟩
    conv=>whnf
    obtain⟨Mu,hMu⟩:=Zsx (M:=U6.M) (b:=mb) (o:=Qt Qbg (Jq (K i))) (L₁:=.obj b13 (.cells [.string c.nm,.int .i64 c.ag,.slice ga gl gc,.slice aa al ac].toArray 48 (0,0))::A) (L₂:=.obj b10 (.cells [.slice ra rl rc,.slice sa sl sc].toArray 43 (0,0))::.obj wb (.cells (Qf1 L).toArray 3 (0,0))::.obj b4 (.cells [.slice none 0 0,.slice none 0 0].toArray 90 (0,0))::U.M) (by rw[hM6]);have hsl':(.int .i64 (sl:Int):Value)=.int .i64 ((K i).length:Nat):=by rw[show sl=(K i).length by omega]
    refine Qe7 (b:=mb) (k:=((i:Nat):Int)) (l:=Jq (K i)) (v:=.int .i64 sl) (M':=Mu (Qt Qbg (Jq (K (i+1))))) Qhp Qiw rfl rfl rfl (by rw[hsl',Zi6 hnot,<- hK1];exact(hMu _).1) ?_;have hpm:({ U6 with M:=Mu (Qt Qbg (Jq (K (i+1)))) }:Qa T).M.Perm _:=(hMu (Qt Qbg (Jq (K (i+1))))).2;have hzx:U5.frz.lg ({ U6 with M:=Mu (Qt Qbg (Jq (K (i+1)))) }:Qa T):=⟨hz6.imm,⟨_,(append_nil _).symm⟩,hz6.tok⟩;generalize({ U6 with M:=Mu (Qt Qbg (Jq (K (i+1)))) }:Qa T)=Ux at hpm hzx ⊢;refine⟨_,⟨rfl,J2 (b:=b13) (e:=48) (vs:=[.string c.nm,.int .i64 c.ag,.slice ga gl gc,.slice aa al ac]) (hpm.mem_iff.2 (by simp))⟩,?_⟩;refine⟨Qsu.any,(Qgt (U:=Ux) c ga aa gl gc al ac (hgs.lg hzx.frz2) (by omega) (ha.lg hzx.frz2) (by omega) (λ g hg=>by have:=(hg3 g hg).1;omega) hcnm).mono ?_⟩;rintro _ U7⟨⟨⟨kga,kgl,kgc,kv,kF⟩,rfl,hk,hM_7⟩,hI_7,ht_7⟩-;obtain⟨a0,l0,c0,e0,-⟩:=hk.af.src;obtain rfl:kv=.slice a0 l0 c0:=e0
    have hpm7:U7.M.Perm (kF++(.obj b13 (.cells [.string c.nm,.int .i64 c.ag,.slice ga gl gc,.slice aa al ac].toArray 48 (0,0))::(A++woB mb b10 wb b4 (.slice ra rl rc) (.slice sa sl sc) (Jq (K (i+1))) L U.M))):=by
     rw[hM_7];exact Perm.append_left _ hpm
    have hI7:∀x q,U5.I x=some q->U7.I x=some q:=λ x q hx=>hI_7 x q (hzx.imm x q hx);have ht7:U7.tok=U5.tok:=ht_7.trans hzx.tok;refine⟨rfl,Q1q (vs:=[.string c.nm,.int .i64 c.ag,.slice kga kgl kgc,.slice a0 l0 c0]) hpm7 rfl (by simp[Value.single]) λ U8 hI_8 ht_8 hM_8=>?_⟩;refine⟨rfl,Zt2 (b:=b13) (e:=48) (c:=[.string c.nm,.int .i64 c.ag,.slice kga kgl kgc,.slice a0 l0 c0].toArray) (L₁:=kF) (L₂:=A++woB mb b10 wb b4 (.slice ra rl rc) (.slice sa sl sc) (Jq (K (i+1))) L U.M) (i:=3) (v:=.slice none 0 0) (by rw[hM_8]) (by show 3<4;omega) rfl λ U9 hI_9 ht_9 hM_9=>?_⟩;have hM_9:U9.M=kF++.obj b13 (.cells [.string c.nm,.int .i64 c.ag,.slice kga kgl kgc,.slice none 0 0].toArray 48 (0,0))::(A++woB mb b10 wb b4 (.slice ra rl rc) (.slice sa sl sc) (Jq (K (i+1))) L U.M):=hM_9;have hz9:U5.frz.lg U9.frz:=⟨λ x q hx=>by show U9.I x=_;rw[hI_9,hI_8];exact hI7 x q hx,⟨[],rfl⟩,by show U9.tok=_;rw[ht_9,ht_8];exact ht7⟩;have hz79:U7.frz.lg U9.frz:=⟨λ x q hx=>by show U9.I x=_;rw[hI_9,hI_8];exact hx,⟨[],rfl⟩,by show U9.tok=_;rw[ht_9,ht_8];rfl⟩;refine⟨_,(J2 (b:=b10) (e:=43) (vs:=[.slice ra rl rc,.slice sa sl sc]) (by rw[hM_9];simp)).cell (i:=1) rfl,?_⟩;refine⟨_,⟨rfl,J2 (b:=b13) (e:=48) (vs:=[.string c.nm,.int .i64 c.ag,.slice kga kgl kgc,.slice none 0 0]) (by rw[hM_9];simp)⟩,?_⟩
    conv=>whnf
    intro bb hfb
    refine Zd9 (M':=A++woB mb b10 wb b4 (.slice ra rl rc) (.slice sa sl sc) (Jq (K (i+1))) L U.M) (M₀:=kF++[.obj b13 (.cells [.string c.nm,.int .i64 c.ag,.slice kga kgl kgc,.slice none 0 0].toArray 48 (0,0))]) hfb (by
     rw[hM_9];refine Perm.trans ?_ perm_append_comm;rw[append_assoc];exact Perm.refl _) λ Ua hIa hta hMa hbb=>?_
    have hza:U9.frz.lg Ua.frz:=⟨hIa,⟨[],rfl⟩,hta⟩;have hbb:Zd Ua bb (Qcq (({ c with af:=[] }:Cs),(⟨kga,kgl,kgc,.slice none 0 0,[]⟩:Qao))).toArray:=hbb
    conv=>whnf
    refine Ws (v:=.slice sa sl sc) (cs:=ps.flatMap Qcq) (new:=Qcq (({ c with af:=[] }:Cs),(⟨kga,kgl,kgc,.slice none 0 0,[]⟩:Qao))) (M₀:=woB mb b10 wb b4 (.slice ra rl rc) (.slice sa sl sc) (Jq (K (i+1))) L U.M) Qyp rfl rfl (by rw[hMa];exact hacc _) (.inr ⟨_,rfl,hbb.reads (λ k v hv=>by simpa using hv)⟩) rfl (by simp[Qcq,Value.single]) (by rw[Q0 Z2,Z2];omega) λ v' M' ha' _=>?_;obtain⟨A_2,hM',ha_2⟩:=ha'.split;obtain⟨ta,tl,tc,rfl,-⟩:=ha_2.src;refine⟨rfl,Qbk (b:=b10) (e:=43) (c:=[.slice ra rl rc,.slice sa sl sc].toArray) (M₀:=.obj wb (.cells (Qf1 L).toArray 3 (0,0))::.obj b4 (.cells [.slice none 0 0,.slice none 0 0].toArray 90 (0,0))::U.M) (i:=1) (v:=.slice ta tl tc) (A_2++[.obj mb (Qt Qbg (Jq (K (i+1))))]) (by show M'=_;rw[hM'];simp) (by show 1<2;omega) rfl λ Uc hIc htc hMc=>?_⟩;have hMc:Uc.M=A_2++woB mb b10 wb b4 (.slice ra rl rc) (.slice ta tl tc) (Jq (K (i+1))) L U.M:=by rw[hMc];simp
    have hzc:U9.frz.lg Uc.frz:=hza.trans ⟨λ x q hx=>by show Uc.I x=_;rw[hIc];exact hx,⟨[],rfl⟩,htc⟩;refine⟨hin,rfl,(i+1,.slice ta tl tc),by trivial,⟨⟨λ x q hx=>hzc.imm x q (hz9.imm x q (hlg.imm x q hx)),⟨_,(append_nil _).symm⟩,hzc.tok.trans (hz9.tok.trans hlg.tok)⟩,by show i+1<=h.cl;omega,ps++[(({ c with af:=[] }:Cs),(⟨kga,kgl,kgc,.slice none 0 0,[]⟩:Qao))],A_2,?_,?_,?_,hMc⟩,by show _-_<_-_;omega⟩
    .show _=b.woL (K (i+1)) _;rw[hK1,Bk.woL_snoc,map_append,hps,hcas];rfl
    .intro p hp;rcases mem_append.1 hp with hp|hp
     .exact⟨(hpok p hp).1.lg (hz9.trans hzc),(hpok p hp).2⟩
     .rw[mem_singleton.1 hp];have:=hk.lg (hz79.trans hzc);exact⟨⟨this.gs,this.gl,.nil,this.nm,by show 0<=_;omega⟩,rfl⟩
    .rw[flatMap_append];simpa using ha_2
  have hge:i=h.cl:=by simp at hc;omega
  subst hge
  have hown:Qa3 U5 ⟨ra,rl,rc,sa,sl,sc⟩ (Bk.mk b.rs (b.woL (K h.cl) λ _=>[])) (woB mb b10 wb b4 (.slice ra rl rc) (.slice sa sl sc) (Jq (K h.cl)) L U.M):=by
   refine⟨⟨ps,A,hps,λ p hp=>(hpok p hp).1,hacc,?_⟩,hrs4.lg hlg.frz2 λ _ _ h=>h,by show rl<_;omega,hb.rn,hroom⟩
   have:ps.flatMap (·.2.F)=[]:=by
    rw[flatMap_eq_nil_iff];exact λ p hp=>(hpok p hp).2
   rw[this,hM];exact Perm.refl _
  clear hM hacc hps hpok hin hrs4
  conv=>whnf
  refine Qoy (b:=mb) (enc:=Qbg) (l:=Jq (K h.cl)) Qiw rfl (.inr (hown.mem _ (by simp))) λ it hitf=>?_;have hKn:(K h.cl).Nodup:=Bk.kpt_nodup _;have hm5:(K h.cl).length<=5:=Nat.le_trans (Bk.kpt_len _) (by omega)
  let G:Nat->List Int:=λ p=>Bk.afK o.testBit (L.getD ((K h.cl).getD p 0) 0) h.cl
  have hown:Qa3 (U5.put it (J1 mb (Jq (K h.cl)).length #[])) ⟨ra,rl,rc,sa,sl,sc⟩ (Bk.mk b.rs (b.woL (K h.cl) λ p=>if p∈(#[]:Array Nat)then G p else[])) (.obj it (J1 mb (Jq (K h.cl)).length #[])::woB mb b10 wb b4 (.slice ra rl rc) (.slice sa sl sc) (Jq (K h.cl)) L U.M):=by
   rw[show(λ p=>if p∈(#[]:Array Nat)then G p else[])=(λ _=>([]:List Int)) by funext p;simp];obtain⟨ps,A,h1,h2,h3,h4⟩:=hown.ex;refine⟨⟨ps,A,h1,λ p hp=>(h2 p hp).lg ⟨λ _ _ h=>h,⟨[],rfl⟩,rfl⟩,h3,?_⟩,hown.rs.lg ⟨λ _ _ h=>h,⟨[],rfl⟩,rfl⟩ λ _ _ h=>h,hown.rl,hown.rn,hown.rc⟩;show(_::U5.M).Perm _;rw[<- append_assoc];refine(h4.cons _).trans ?_;rw[<- append_assoc];exact perm_middle.symm
  refine⟨Array Nat,λ _=>[(2,.pointer (some ⟨B,0,none⟩)),(4,.pointer (some ⟨b4,0,none⟩)),(5,.slice (some ⟨wb,0,none⟩) h.cl h.cl),(10,.pointer (some ⟨b10,0,none⟩)),(11,.map (some mb)),(122,.pointer (some ⟨it,0,none⟩))],
   λ seen U'=>U5.frz.lg U'/\Qa3 U' ⟨ra,rl,rc,sa,sl,sc⟩ (Bk.mk b.rs (b.woL (K h.cl) λ p=>if p∈seen then G p else[])) (.obj it (J1 mb (Jq (K h.cl)).length seen)::woB mb b10 wb b4 (.slice ra rl rc) (.slice sa sl sc) (Jq (K h.cl)) L U.M)/\seen.toList.Nodup/\∀i∈seen.toList,i<(K h.cl).length,λ seen=>(K h.cl).length-seen.size,#[],by trivial,⟨⟨λ _ _ h=>h,⟨_,(append_nil _).symm⟩,rfl⟩,hown,by simp,by simp⟩,?_⟩
  clear hown;rintro seen f U6⟨hlg6,hown,hnd,hlts⟩
  have hslen:seen.size<=(K h.cl).length:=by
   have:=Qbi hnd hlts;simpa using this
  have hlg16:U1.frz.lg U6:=⟨λ x q hx=>hlg6.imm x q (hlg15.imm x q hx),⟨_,(append_nil _).symm⟩,hlg6.tok.trans hlg15.tok⟩;obtain⟨Xp,Yp,hMp,hsetp,-,-⟩:=hown.pick
  conv=>whnf
  refine Qv2 (b:=mb) (r:=it) (seen:=seen) (enc:=Qbg) (l:=Jq (K h.cl)) (λ q=>Xp++.obj it q::Yp) rfl (.inr (hown.mem _ (by simp))) (λ q=>by rw[hMp];exact Qdw .here _) (λ hall=>?_) (λ q p hp hni=>?_)
  .have hfin:(Bk.mk b.rs (b.woL (K h.cl) λ p=>if p∈seen then G p else[]))=b.wo o.testBit:=by
    rw[Bk.wo_woL hW,hcl];congr 1;refine Bk.woL_congr λ p hp=>?_;rw[if_pos (hall p (by rw[Q5z];exact hp))]
   rw[hfin]at hown
   repeat refine⟨rfl,?_⟩
   refine⟨_,⟨rfl,J2 (b:=b10) (e:=43) (vs:=[.slice ra rl rc,.slice sa sl sc]) (hown.mem _ (by simp))⟩,?_⟩
   conv=>whnf
   obtain⟨ps,A,h1,h2,h3,h4⟩:=hown.ex;refine⟨rfl,Q1q (b:=b4) (e:=90) (c:=[.slice none 0 0,.slice none 0 0].toArray) (vs:=[.slice ra rl rc,.slice sa sl sc]) (L₁:=A++(ps.flatMap (·.2.F)++[.obj it (J1 mb (Jq (K h.cl)).length seen),.obj mb (Qt Qbg (Jq (K h.cl))),.obj b10 (.cells [.slice ra rl rc,.slice sa sl sc].toArray 43 (0,0)),.obj wb (.cells (Qf1 L).toArray 3 (0,0))])) (L₂:=U.M) (by simpa using h4) rfl (by simp[Value.single]) λ U7 hI_7 ht_7 hM_7=>?_⟩;refine⟨_,⟨rfl,J2 (b:=b4) (e:=90) (vs:=[.slice ra rl rc,.slice sa sl sc]) (by rw[hM_7];simp)⟩,?_⟩;have hz:U6.frz.lg U7.frz:=⟨λ x q hx=>by show U7.I x=_;rw[hI_7];exact hx,⟨[],rfl⟩,ht_7⟩;refine⟨⟨⟨ra,rl,rc,sa,sl,sc⟩,[.obj it (J1 mb (Jq (K h.cl)).length seen),.obj mb (Qt Qbg (Jq (K h.cl))),.obj b10 (.cells [.slice ra rl rc,.slice sa sl sc].toArray 43 (0,0)),.obj wb (.cells (Qf1 L).toArray 3 (0,0)),.obj b4 (.cells [.slice ra rl rc,.slice sa sl sc].toArray 90 (0,0))],rfl,⟨⟨ps,A,h1,λ p hp=>(h2 p hp).lg hz,h3,by rw[hM_7];simp⟩,hown.rs.lg hz λ _ _ h=>h,hown.rl,hown.rn,hown.rc⟩⟩,λ x q hx=>by rw[hI_7];exact hlg16.imm x q (h_1.imm x q hx),ht_7.trans (hlg16.tok.trans h_1.tok)⟩
  .have hql:q<(K h.cl).length:=by have:=(List.getElem?_eq_some_iff.1 hp).1;rwa [Q5z]at this
   rw[Zfc hql]at hp;cases hp;have hkq:=Bk.kpt_lt (Qvq hql:(K h.cl).getD q 0∈Bk.kpt o.testBit h.cl);generalize hkk:(K h.cl).getD q 0=kk at hkq
   have hnd':(seen.push q).toList.Nodup:=by
    rw[Array.toList_push,nodup_append];refine⟨hnd,by simp,λ x hx y hy=>?_⟩;rw[mem_singleton.1 hy];rintro rfl;exact hni (by simpa using hx)
   have hlts':∀j∈(seen.push q).toList,j<(K h.cl).length:=by
    intro j hj;rw[Array.toList_push,mem_append]at hj;rcases hj with hj|hj
    .exact hlts j hj
    .rw[mem_singleton.1 hj];exact hql
   have hdec:(K h.cl).length-(seen.push q).size<(K h.cl).length-seen.size:=by
    have:=Qbi hnd' hlts';rw[Array.length_toList,Array.size_push]at this;rw[Array.size_push];omega
   have hown7:=hsetp ({ U6 with M:=Xp++.obj it (J1 mb (Jq (K h.cl)).length (seen.push q))::Yp }:Qa T) (.obj it (J1 mb (Jq (K h.cl)).length (seen.push q))) (λ _ _ h=>h) rfl rfl;have hlg7:U5.frz.lg ({ U6 with M:=Xp++.obj it (J1 mb (Jq (K h.cl)).length (seen.push q))::Yp }:Qa T):=⟨hlg6.imm,⟨_,(append_nil _).symm⟩,hlg6.tok⟩;generalize({ U6 with M:=Xp++.obj it (J1 mb (Jq (K h.cl)).length (seen.push q))::Yp }:Qa T)=U7 at hown7 hlg7 ⊢;have hlg17:U1.frz.lg U7:=⟨λ x q hx=>hlg7.imm x q (hlg15.imm x q hx),⟨_,(append_nil _).symm⟩,hlg7.tok.trans hlg15.tok⟩
   repeat refine⟨rfl,?_⟩
   conv=>whnf
   refine Qox (b:=mb) (r:=it) (seen:=seen) (enc:=Qbg) (l:=Jq (K h.cl)) rfl (.inr (hown7.mem _ (by simp))) (.inr (hown7.mem _ (by simp))) (Zfc hql) ?_;rw[hkk];refine⟨_,(hB.imI hlg17.imm).sees3 (o:=1) rfl,Nat,λ k=>[(2,.pointer (some ⟨B,0,none⟩)),(4,.pointer (some ⟨b4,0,none⟩)),(5,.slice (some ⟨wb,0,none⟩) h.cl h.cl),(10,.pointer (some ⟨b10,0,none⟩)),(11,.map (some mb)),(14,.int .i64 kk),(15,.int .i64 q),(122,.pointer (some ⟨it,0,none⟩)),(131,.int .i64 h.cl),(132,.int .i64 k)],
    λ k U'=>U7.frz.lg U'/\k<=h.cl/\Qa3 U' ⟨ra,rl,rc,sa,sl,sc⟩ (Bk.mk b.rs (b.woL (K h.cl) λ p=>if p=q then Bk.afK o.testBit (L.getD kk 0) k else if p∈seen then G p else[])) (.obj it (J1 mb (Jq (K h.cl)).length (seen.push q))::woB mb b10 wb b4 (.slice ra rl rc) (.slice sa sl sc) (Jq (K h.cl)) L U.M),λ k=>h.cl-k,0,by trivial,⟨⟨λ _ _ h=>h,⟨_,(append_nil _).symm⟩,rfl⟩,by omega,?_⟩,?_⟩
   .rw[Bk.woL_congr (b:=b) (g':=λ p=>if p∈seen then G p else[]) λ p hp=>?_]
    .exact hown7
    .by_cases e:p=q
     .subst e;rw[if_pos rfl,if_neg hni];rfl
     .rw[if_neg e]
   rintro k f U8⟨hlg8,hk,hown8⟩;have hink:Zm ((k:Int)+1):=by unfold Zm;omega
   have hlg18:U1.frz.lg U8:=⟨λ x q hx=>hlg8.imm x q (hlg17.imm x q hx),⟨_,(append_nil _).symm⟩,hlg8.tok.trans hlg17.tok⟩
   repeat refine⟨rfl,?_⟩
   conv=>whnf
   apply Qe<;>intro hc
   .have hkt:k<h.cl:=by simpa using hc
    cases hbt:o.testBit k with
    |true=>
     have hlk:lk ((k:Nat):Int) (Jq (K h.cl))=none:=Znz λ hm=>by
      have:=(Bk.kpt_lt hm).2;rw[hbt]at this;cases this
     conv=>whnf
     refine Qid (b:=mb) (k:=((k:Nat):Int)) (l:=Jq (K h.cl)) Qhp Qiw Qgf rfl rfl (.inr (hown8.mem _ (by simp))) ?_;rw[hlk];refine⟨hink,?_⟩
     conv=>whnf
     exact⟨rfl,k+1,by trivial,⟨hlg8,by omega,by rw[Bk.afK_out hbt];exact hown8⟩,by show _-_<_-_;omega⟩
    |false=>
     obtain⟨hpos,hpk⟩:=Zqd (f:=o.testBit) hkt hbt
     have hlk:lk ((k:Nat):Int) (Jq (K h.cl))=some (.int .i64 ((K k).length:Nat)):=by
      have:=Zqa hKn hpos
      rwa [show(K h.cl).getD (Bk.kpt o.testBit k).length 0=k from hpk]at this
     have hbit:=Qva (h60 kk) (show k<60 by omega)
     have hrdL:U8.sees ((Addr.mk wb 0 none).add (kk*1)) (.int .i64 (L.getD kk 0:Nat)):=by
      rw[Nat.mul_one];exact J2 (b:=wb) (e:=3) (vs:=Qf1 L) (hown8.mem _ (by simp)) kk _ (Zfn (by rw[hwb5.len];exact hkq.1))
     have hafin:=Bk.afK_in (out:=o.testBit) (w:=L.getD kk 0) (j:=k) hbt
     conv=>whnf
     refine Qid (b:=mb) (k:=((k:Nat):Int)) (l:=Jq (K h.cl)) Qhp Qiw Qgf rfl rfl (.inr (hown8.mem _ (by simp))) ?_;rw[hlk];refine⟨⟨wb,0,none⟩,kk,⟨rfl,rfl,hkq.1⟩,_,hrdL,by omega,?_⟩
     repeat refine⟨rfl,?_⟩
     conv=>whnf
     apply Qe<;>intro hc
     .have hb1:(L.getD kk 0).testBit k=true:=hbit.symm.trans hc;rw[hb1,if_pos rfl]at hafin
      have hql':q<(Bk.mk b.rs (b.woL (K h.cl) λ p=>if p=q then Bk.afK o.testBit (L.getD kk 0) k else if p∈seen then G p else[])).cs.length:=by
       show q<(b.woL _ _).length;rw[Bk.woL_len];exact hql
      have hcq:(Bk.mk b.rs (b.woL (K h.cl) λ p=>if p=q then Bk.afK o.testBit (L.getD kk 0) k else if p∈seen then G p else[])).cas q={ b.cas ((K h.cl).getD q 0)with af:=Bk.afK o.testBit (L.getD kk 0) k }:=by
       rw[Bk.cas_at (Bk.woL_at hql),if_pos rfl]
      obtain⟨a0,l0,c0,kF,cb,cc,rest,hop⟩:=hown8.openC hql';have hacc0:=hop.acc;rw[hcq]at hacc0;have hl0:=hop.acc.src;have hlen0:=Bk.afK_len (out:=o.testBit) (L.getD kk 0) k
      let rs2:=rest++(.obj it (J1 mb (Jq (K h.cl)).length (seen.push q))::woB mb b10 wb b4 (.slice ra rl rc) (.slice sa sl sc) (Jq (K h.cl)) L U.M)
      let Us:Qa T:={ U8 with M:=kF++(.obj cb (.cells cc.toList.toArray 48 (0,0))::rs2) }
      let Ub:Qa T:={ U8 with M:=.obj cb (.cells cc.toList.toArray 48 (0,0))::rs2 }
      have hUb:Ub.lg Us:=⟨λ _ _ h=>h,⟨kF,rfl⟩,rfl⟩;have hca:(some ⟨cb,0,none⟩:Option Addr)=sa:=hop.ca.symm;have hqs:q<sl:=hop.lt;have hrb10:Z7 Ub ⟨b10,0,none⟩ [.slice ra rl rc,.slice sa sl sc]:=J2 (e:=43) (by show _∈_::rs2;simp[rs2])
      have hsc:Ub.sees (((Addr.mk cb 0 none).add (q*4)).add 3) (.slice a0 l0 c0):=by
       have:=J2 (U:=Ub) (b:=cb) (e:=48) (vs:=cc.toList) (by show _∈_::rs2;simp) (q*4+3) _ hop.at3;rw[Qo]at this;rw[Qo,Qo,Nat.add_assoc];exact this
      conv=>whnf
      intro ac0 hfr0;refine Znk (Qaa hop.pm) ?_
      refine Qy6 (mu:=[1039]) (ops:=Q6m Tryz.f40 39) (id:=39) (U:=Us) hfr0 Ub hUb [10,11] [[0,1,2,3,4,5,6,7,8,9,10,11]] [12,13,14] Qkx Q0e Qd (by kernel_rfl) (by kernel_rfl) (by kernel_rfl) (by kernel_rfl) (by kernel_rfl)
       (λ f' ds' U'=>ds'=[]/\∃(va:Option Addr)(vl vc:Nat)(F':List Qv),Qjc f' [(2,.pointer (some ⟨B,0,none⟩)),(4,.pointer (some ⟨b4,0,none⟩)),(5,.slice (some ⟨wb,0,none⟩) h.cl h.cl),(10,.pointer (some ⟨b10,0,none⟩)),(11,.map (some mb)),(14,.int .i64 kk),(15,.int .i64 q),(122,.pointer (some ⟨it,0,none⟩)),(131,.int .i64 h.cl),(132,.int .i64 k),(153,.slice sa sl sc),(154,.int .i64 q),(163,.slice va vl vc)]/\Jx 3 1 (.slice va vl vc) ((Bk.afK o.testBit (L.getD kk 0) (k+1)).map λ n=>.int .i64 n) F'/\U8.frz.lg U'/\U'.M=F'++(.obj cb (.cells cc.toList.toArray 48 (0,0))::rs2)) ?_ ?_
      .intro l hl;simp only[Qkx,mem_cons,not_mem_nil,or_false]at hl;subst hl;refine⟨_,hrb10.cell (i:=1) rfl,_,hrb10.cell (i:=1) rfl,⟨cb,0,none⟩,q,⟨hop.ca,rfl,hqs⟩,_,hsc,λ v U'=>∃b162,v=.slice (some ⟨b162,0,none⟩) 1 1/\Zd U' b162 #[.int .i64 ((K k).length:Nat)]/\Us.le U',λ v U1 U2⟨b162,e1,hb,hl⟩hle=>⟨b162,e1,hb.le hle,hl.trans hle⟩,λ v U'⟨b162,e1,hb,hl⟩=>hUb.trans hl.lg,λ U' hC=>?_,λ v hv=>?_⟩
       .have hle:=hC
        conv=>whnf
        intro b162 hf162;exact Zk hf162 λ U3 h_3 hb=>⟨U3,.refl _,b162,rfl,hb,Qa.le.trans hle h_3⟩
       obtain⟨_,b162,rfl,-⟩:=hv;refine⟨λ v U'=>∃(F':List Qv),(∃va vl vc,v=.slice va vl vc)/\Jx 3 1 v ((Bk.afK o.testBit (L.getD kk 0) (k+1)).map λ n=>.int .i64 n) F'/\U8.frz.lg U'/\U'.M=F'++(.obj cb (.cells cc.toList.toArray 48 (0,0))::rs2),λ v U1 U2⟨F',hs,h1,h2,h3⟩hle=>⟨F',hs,h1,h2.trans hle.lg,hle.own.trans h3⟩,λ v U'⟨F',hs,h1,h2,h3⟩=>⟨h2.imm,⟨F',h3⟩,h2.tok⟩,λ U' hC=>?_,λ v hv=>?_⟩
       .obtain⟨b162',e1,hb162,hle⟩:=hC;cases e1
        conv=>whnf
        refine Ws (v:=.slice a0 l0 c0) (cs:=(Bk.afK o.testBit (L.getD kk 0) k).map λ n=>.int .i64 n) (new:=[.int .i64 ((K k).length:Nat)]) (M₀:=.obj cb (.cells cc.toList.toArray 48 (0,0))::rs2) Qay rfl rfl (by rw[hle.own];exact hacc0 _) (.inr ⟨_,rfl,hb162.reads (λ k v hv=>by simpa using hv)⟩) rfl (by simp[Value.single]) (by rw[length_map,length_cons,length_nil];omega) λ v' M' ha' _=>?_;obtain⟨F',hM',hF'⟩:=ha'.split;refine⟨_,.refl _,F',?_,by rw[hafin];simpa using hF',⟨λ x q hx=>hle.imm x q hx,⟨_,(append_nil _).symm⟩,hle.tok⟩,hM'⟩;obtain⟨ta,tl,tc,e2,-⟩:=hF'.src;exact⟨ta,tl,tc,e2⟩
       obtain⟨_,F',⟨va,vl,vc,rfl⟩,-⟩:=hv
       conv=>whnf
       rintro U'⟨F'',-,h1,h2,h3⟩;exact⟨rfl,va,vl,vc,F'',by trivial,h1,h2,h3⟩
      rintro f' ds' U9⟨rfl,va,vl,vc,F',hfr,hF',hl9,hM9⟩;rw[<- hfr.ovr];clear hfr;refine⟨⟨cb,0,none⟩,q,⟨hop.ca,rfl,hqs⟩,rfl,?_⟩;rw[show((Addr.mk cb 0 none).add (q*4)).add 3=(Addr.mk cb 0 none).add (q*4+3) by rw[Qo,Qo,Qo,Nat.add_assoc]];refine Qbk (i:=q*4+3) (v:=.slice va vl vc) F' hM9 (by simpa using hop.sz) rfl λ Ua hIa hta hMa=>?_;have hza:U8.frz.lg Ua.frz:=hl9.frz2.trans ⟨λ x q hx=>by show Ua.I x=_;rw[hIa];exact hx,⟨[],rfl⟩,hta⟩;have hlen1:=Bk.afK_len (out:=o.testBit) (L.getD kk 0) (k+1);have hownN:=hop.back Ua (.slice va vl vc) F' (Bk.afK o.testBit (L.getD kk 0) (k+1)) (.obj it (J1 mb (Jq (K h.cl)).length (seen.push q))::woB mb b10 wb b4 (.slice ra rl rc) (.slice sa sl sc) (Jq (K h.cl)) L U.M) hza hF' (by omega) (by rw[hMa]);rw[Bk.woL_set hql]at hownN;rw[Bk.woL_congr (b:=b) (g':=λ p=>if p=q then Bk.afK o.testBit (L.getD kk 0) (k+1)else if p∈seen then G p else[]) λ p _=>by by_cases e:p=q <;> simp[e]]at hownN
      conv=>whnf
      intro a' hf';refine⟨by rw[hf'.size,hfr0.size],_,hf'.get,?_⟩;rw[hf'.ds];clear hf' hfr0;refine⟨hink,?_⟩
      conv=>whnf
      exact⟨rfl,k+1,by trivial,⟨⟨λ x q hx=>hza.imm x q (hlg8.imm x q hx),⟨_,(append_nil _).symm⟩,hza.tok.trans hlg8.tok⟩,by omega,hownN⟩,by show _-_<_-_;omega⟩
     .have hb1:(L.getD kk 0).testBit k=false:=hbit.symm.trans hc;rw[hb1,if_neg (by simp),append_nil]at hafin;refine⟨hink,?_⟩
      conv=>whnf
      exact⟨rfl,k+1,by trivial,⟨hlg8,by omega,by rw[hafin];exact hown8⟩,by show _-_<_-_;omega⟩
   .have hge:k=h.cl:=by simp at hc;omega
    subst hge;rw[Bk.woL_congr (b:=b) (g':=λ p=>if p∈seen.push q then G p else[]) λ p hp=>?_]at hown8
    .conv=>whnf
     exact⟨rfl,seen.push q,by trivial,⟨⟨λ x q hx=>hlg8.imm x q (hlg7.imm x q hx),⟨_,(append_nil _).symm⟩,hlg8.tok.trans hlg7.tok⟩,hown8,hnd',hlts'⟩,hdec⟩
    .by_cases e:p=q
     .subst e;rw[if_pos rfl,if_pos (by simp)];show _=Bk.afK o.testBit (L.getD ((K h.cl).getD p 0) 0) h.cl;rw[hkk]
     .rw[if_neg e];by_cases hs:p∈seen
      .rw[if_pos hs,if_pos (by simp[hs])]
      .rw[if_neg hs,if_neg (by simp[hs,e])]
 refine main.okv λ v U' hw⟨⟨h',Z,hv,ho'⟩,hI,ht⟩=>?_
 have hlen:(b.wo o.testBit).cs.length<=1000:=by
  show((b.kept o.testBit).map _).length<=_;rw[length_map];exact Nat.le_trans (Bk.kpt_len (out:=o.testBit) b.cs.length) (by omega)
 obtain⟨U'',k1,k2,k3,k4⟩:=ho'.freeze hw hlen;exact⟨{ U'' with M:=U.M },k1.trans (Z4 (by rw[k2];exact sublist_append_right ..)),⟨h',hv,k4,ho'.rc⟩,⟨λ x q hx=>k3.imm x q (hI x q hx),rfl,k3.tok.trans ht⟩⟩
end Go.Proofs
namespace Go.TM
variable{T:Type}{P:Program}{S:Sys P T}{U U':Qa T}
def Qmi(x:List Int):Nat:=Ja (x.map Int.toNat)
def Bk.every(b:Bk):List Int:=(range b.cs.length).map λ(k:Nat)=>(k:Int)
def Bk.wdP(b:Bk)(r:Nat)(x:List Int):Bool:=(b.wo (Qmi x).testBit).fatR r==1
def Bk.wdL(b:Bk)(r:Nat):List Int:=(Qbh b.every (b.wdP r) 0 (b.cs.length+1)).getD []
def Bk.wdF(b:Bk)(r:Int):List Int:=if b.askF r=0 then b.wdL r.toNat else[]
def Q5s{b:Bk}(h:b.cs.length<=5){q:List Int}(hq:q.Sublist b.every):(∀n∈q,0<=n/\n<60)/\q.length<=5/\Qmi q<2^60:=by
 have h1:∀n∈q,0<=n/\n<60:=λ n hn=>by
  have:=hq.subset hn;simp only[Bk.every,mem_map,mem_range]at this;obtain⟨k,hk,rfl⟩:=this;omega
 refine⟨h1,?_,Qce (toNat_lt h1)⟩;have:=hq.length_le;simp[Bk.every]at this;omega
end Go.TM
namespace Go.Proofs
open Go.TM
variable{T:Type}{S:TM.Sys prog T}{U:Qa T}
attribute [local irreducible] Qb Zh We
def Zda(h:BH)(b:Bk)(hb:Zt U.frz h b)(hok:b.Ok)(r:Nat)(hr:r<b.rs.length){b6 b3:Nat}(hb6:Zd U b6 #[.slice h.ra h.rl h.rc,.slice h.ca h.cl h.cc])(hb3:Zd U b3 #[.int .i64 r]) :
  SoV S 39 #[] #[.pointer (some ⟨b6,0,none⟩),.pointer (some ⟨b3,0,none⟩)] (b.wdP r) b.every U:=by
 rintro q a cap U1 hq⟨X,I',hI,rfl⟩hqi;obtain⟨q60,q5,qo⟩:=Q5s hok.nc hq;have hlg:U.lg (⟨I',X++U.M,U.tok⟩:Qa T):=⟨hI,⟨X,rfl⟩,rfl⟩;generalize(⟨I',X++U.M,U.tok⟩:Qa T)=U1 at hqi hlg;refine Qb.pure' (Qb.of (args:=[_,_,_]) Q3k Qd (by simp) ?_);have hb6:=hb6.lg hlg;have hb3:=hb3.lg hlg;refine⟨_,⟨rfl,hb6.reads (λ k v hv=>by simpa using hv)⟩,?_⟩;refine⟨.int .i64 (Qmi q:Nat),λ U' hle _=>?_,?_⟩
 .refine⟨Qa6.any,(Jd a q.length cap q (hqi.lg (Qq.trans hle.lg)) (by omega) q60).mono ?_⟩;rintro _ U''⟨rfl,hU⟩-;exact⟨rfl,_,.refl _,hU▸.refl _⟩
 refine⟨_,hb3.sees3 (o:=0) rfl,λ v U'=>∃h':BH,v=h'.v/\Zt U'.frz h' (b.wo (Qmi q).testBit),λ v U1 U2⟨h',e,hb⟩hle=>⟨h',e,hb.lg hle.lg.frz2⟩,λ U' hle _=>?_,λ v hv=>?_⟩
 .refine⟨Qsl.any,(Qgu h b (hb.lg (hlg.frz2.trans hle.lg.frz2)) hok (Qmi q) qo).mono ?_⟩;rintro v U''⟨⟨h',e,hb',-⟩,hle'⟩-;exact⟨U'',.refl _,⟨h',e,hb'⟩,hle'⟩
 obtain⟨_,-,-,h',rfl,-⟩:=hv
 conv=>whnf
 intro U2 h_2 hC;obtain⟨-,h'',e,hbw⟩:=hC;have e':=Value.agg.inj e
 obtain rfl:h'=h'':=by
  obtain⟨x1,x2,x3,x4,x5,x6⟩:=h';obtain⟨y1,y2,y3,y4,y5,y6⟩:=h'';simp at e';simp[e']
 refine⟨Qff.any,(Qcx h' _ hbw (hok.wo _) r hr).go λ _=>?_⟩
 repeat refine⟨rfl,?_⟩
 conv=>whnf
 exact h_2.lg
def Qkj(h:BH)(b:Bk)(hb:Zt U.frz h b)(hk:Chk U)(r:Int):Qb S 11 #[h.v,.int .i64 r] (λ v U'=>(∃v1,v=.tuple #[v1,.int .i64 (b.askF r)]/\Qcu U'.frz v1 (b.wdF r))/\U.le U') U:=by
 refine Qb.grown (R:=λ v U'=>∃v1,v=.tuple #[v1,.int .i64 (b.askF r)]/\Qcu U' v1 (b.wdF r)) (λ v U1 U2 hl⟨v1,e,h1⟩=>⟨v1,e,h1.lg hl⟩) (Qb.of (args:=[_,_]) Q29 Qd (by simp) ?_);have hcl:=hb.cs.1
 repeat refine⟨rfl,?_⟩
 conv=>whnf
 intro B U1 h_1 hB;have hB:Zd U1 B #[.slice h.ra h.rl h.rc,.slice h.ca h.cl h.cc]:=hB
 conv=>whnf
 intro b3 U2 h_2 hb3;have hb3:Zd U2 b3 #[.int .i64 r]:=hb3;have hB:=hB.le h_2;have hle_2:=h_1.trans h_2;refine⟨_,⟨rfl,hB.reads (λ k v hv=>by simpa using hv)⟩,?_⟩;refine⟨_,hb3.sees3 (o:=0) rfl,Qhn.any,(Qb5 h b (hb.lg hle_2.lg.frz2) (hk.lg hle_2.lg) r).go λ _=>?_⟩
 conv=>whnf
 intro b6 hf6;refine⟨_,.refl _,?_⟩;by_cases hF:b.askF r=0
 .obtain⟨hok,hr0,hr1⟩:=Bk.askF_ok hF;obtain⟨q,rfl⟩:=Int.eq_ofNat_of_zero_le hr0;have hq:q<b.rs.length:=by unfold Bk.nr at hr1;omega
  have hnc:=hok.nc;have hwd:b.wdF (q:Int)=b.wdL q:=by unfold Bk.wdF;rw[if_pos hF,Int.toNat_natCast]
  rw[if_pos hF,hF,hwd];refine⟨rfl,Zs (vs:=[.slice h.ra h.rl h.rc,.slice h.ca h.cl h.cc]) hf6 rfl (by simp[Value.single]) λ U3 h_3 hb6=>?_⟩;have hb6:Zd U3 b6 #[.slice h.ra h.rl h.rc,.slice h.ca h.cl h.cc]:=hb6;have hb3:=hb3.le h_3;have hB:=hB.le h_3;have hle3:=hle_2.trans h_3
  repeat refine⟨rfl,?_⟩
  refine⟨_,⟨rfl,hb6.reads (λ k v hv=>by simpa using hv)⟩,?_⟩;refine⟨_,hB.sees3 (o:=1) rfl,λ v U'=>J0 U'.frz v b.every,λ v U1 U2 hi hle=>hi.lg hle.lg.frz2,λ U' hle _=>?_,λ v hv=>?_⟩
  .refine⟨Qsk.any,(Qjj h b (hb.lg (hle3.lg.frz2.trans hle.lg.frz2)) (by omega)).mono ?_⟩;rintro v U''⟨hv,hle'⟩-;exact⟨U'',.refl _,hv,hle'⟩
  obtain⟨_,-,-,ea,ec,rfl,-⟩:=hv;have hel:b.every.length=h.cl:=by simp[Bk.every,hcl]
  refine⟨λ v U'=>∃v1,v=.tuple #[v1,.bool (Qbh b.every (b.wdP q) 0 (b.cs.length+1)).isSome]/\Qcu U'.frz v1 (b.wdL q),λ v U1 U2⟨v1,e,hi⟩hle=>⟨v1,e,hi.lg hle.lg.frz2⟩,λ U' hle hC=>?_,λ v hv=>?_⟩
  .obtain⟨-,ea',ec',e1,hei⟩:=hC;cases e1;have hz:U3.frz.lg U'.frz:=hle.lg.frz2;have hl:=Qjl (S:=S) (U:=U') b.every ea ec (Qmm hei) (by rw[hel];omega) b.cs.length (by omega) 39 #[] #[.pointer (some ⟨b6,0,none⟩),.pointer (some ⟨b3,0,none⟩)] Q3k.any (b.wdP q) (Zda h b (hb.lg (hle3.lg.frz2.trans hz)) hok q hq (hb6.le hle) (hb3.le hle))
   conv=>whnf
   rw[<- hcl];refine⟨Qsj.any,hl.mono ?_⟩;rintro v U''⟨hv,hle'⟩-;exact⟨U'',.refl _,hv,hle'⟩
  obtain⟨_,-,-,v1,rfl,wa,wc,rfl,-⟩:=hv
  conv=>whnf
  intro U4 h_4 hC;obtain⟨-,v1',e1,hi⟩:=hC
  obtain⟨e2,-⟩:(Value.slice wa (b.wdL q).length wc=v1')/\True:=by
   have:=Value.tuple.inj e1;simp at this;exact⟨this,trivial⟩
  subst e2
  repeat refine⟨rfl,?_⟩
  conv=>whnf
  exact⟨⟨_,rfl,hi⟩,(hle3.trans h_4).lg⟩
 .have hwd:b.wdF r=[]:=by unfold Bk.wdF;rw[if_neg hF]
  rw[if_neg hF,hwd];refine⟨rfl,Zs (vs:=[.slice none 0 0,.slice none 0 0]) hf6 rfl (by simp[Value.single]) λ U3 h_3 hb6=>?_⟩
  repeat refine⟨rfl,?_⟩
  conv=>whnf
  apply Qe<;>intro hc
  .repeat refine⟨rfl,?_⟩
   conv=>whnf
   exact⟨⟨_,rfl,.nil⟩,(hle_2.trans h_3).lg⟩
  .exact absurd (by simpa using hc) hF
def Qmx(h:BH)(b:Bk)(hb:Zt U.frz h b)(hk:Chk U)(r:Int):Qb S 11 #[h.v,.int .i64 r] (λ v U'=>(∃v1,v=.tuple #[v1,.int .i64 (b.askF r)]/\J0 U'.frz v1 (b.wdF r))/\U.le U') U:=
 (Qkj h b hb hk r).mono λ v U'⟨⟨v1,e,h1⟩,h2⟩=>⟨⟨v1,e,h1.v⟩,h2⟩
end Go.Proofs
namespace Go.TM
variable{T:Type}{P:Program}{S:Sys P T}{U U':Qa T}
def Bk.dcS(b:Bk)(r d:Nat):Int:=(b.wo d.testBit).fatR r
def Bk.dcP(b:Bk)(r:Nat)(x:List Int):Bool:=(range (2^b.cs.length)).all λ d=>!(d&&&Qmi x==0&&b.dcS r d != b.dcS r 0)
def Bk.dcL(b:Bk)(r:Nat):List Int:=(Qbh b.every (b.dcP r) 0 (b.cs.length+1)).getD []
def Bk.dcF(b:Bk)(r:Int):List Int:=if b.askF r=0 then b.dcL r.toNat else[]
def Bk.dcM(b:Bk)(r m:Nat):List (Int×Value):=Qg5 m (λ d=>(d:Nat)) λ d=>.int .i64 (b.dcS r d)
def Bk.dcM_succ(b:Bk)(r m:Nat):ups ((m:Nat):Int) (.int .i64 (b.dcS r m)) (b.dcM r m)=b.dcM r (m+1):=by
 unfold Bk.dcM
 rw[(Qgj (m:=m) (k:=((m:Nat):Int)) (ky:=λ d=>(d:Nat)) (vl:=λ d=>.int .i64 (b.dcS r d)) λ q hq e=>by
  have:=Int.ofNat.inj e;omega).2,Qzr]
def Bk.dcM_at(b:Bk){r m d:Nat}(h:d<m):lk ((d:Nat):Int) (b.dcM r m)=some (.int .i64 (b.dcS r d)):=
 Zfl (m:=m) (ky:=λ d=>((d:Nat):Int)) (vl:=λ d=>.int .i64 (b.dcS r d)) h λ q r _ _ e=>Int.ofNat.inj e
def Bk.dcM_len(b:Bk)(r m:Nat):(b.dcM r m).length=m:=Q6u _ _ _
def Bk.dcM_get(b:Bk){r m d:Nat}(h:d<m):(b.dcM r m)[d]?=some (((d:Nat):Int),.int .i64 (b.dcS r d)):=Q1s h
def Q6v{n:Nat}(h:n<=5):2^n<=32:=by
 have:=Nat.pow_le_pow_right (show 0<2 by omega) h;simpa using this
end Go.TM
namespace Go.Proofs
open Go.TM
variable{T:Type}{S:TM.Sys prog T}{U:Qa T}
attribute [local irreducible] Qb Zh We
def Q7s(b:Bk)(hnc:b.cs.length<=5)(r:Nat){b8 mb:Nat}(hb8:Zd U b8 #[.map (some mb)])(hm:U.has mb (Qt Qbg (b.dcM r (2^b.cs.length)))) :
  SoV S 60 #[] #[.pointer (some ⟨b8,0,none⟩)] (b.dcP r) b.every U:=by
 rintro q a cap U1 hq⟨X,I',hI,rfl⟩hqi;obtain⟨q60,q5,qo⟩:=Q5s hnc hq;have hlg:U.lg (⟨I',X++U.M,U.tok⟩:Qa T):=⟨hI,⟨X,rfl⟩,rfl⟩;have hm:(⟨I',X++U.M,U.tok⟩:Qa T).has mb (Qt Qbg (b.dcM r (2^b.cs.length))):=hm.imp (hI _ _) λ h=>mem_append_right _ h;generalize(⟨I',X++U.M,U.tok⟩:Qa T)=U1 at hqi hlg hm;have h32:=Q6v hnc;have hpos:0<2^b.cs.length:=Nat.two_pow_pos _;refine Qb.pure' (Qb.of (args:=[_,_]) Q3p Qd (by simp) ?_);have hb8:=hb8.lg hlg;refine⟨_,hb8.sees3 (o:=0) rfl,?_⟩
 conv=>whnf
 refine Qoy (b:=mb) (enc:=Qbg) (l:=b.dcM r (2^b.cs.length)) Qok rfl hm λ it hitf=>?_;rw[Bk.dcM_len];have hlp:=Z0 (U:=U1) it (J1 mb (2^b.cs.length) #[])
 refine⟨Array Nat,λ _=>[(0,.slice a q.length cap),(1,.pointer (some ⟨b8,0,none⟩)),(7,.pointer (some ⟨it,0,none⟩))],
  λ seen U'=>U1.frz.lg U'/\U'.M=.obj it (J1 mb (2^b.cs.length) seen)::U1.M/\seen.toList.Nodup/\(∀i∈seen.toList,i<2^b.cs.length)/\∀i∈seen,(!(i&&&Qmi q==0&&b.dcS r i != b.dcS r 0))=true,λ seen=>2^b.cs.length-seen.size,#[],by trivial,⟨Qq.trans hlp,rfl,by simp,by simp,by simp⟩,?_⟩
 rintro seen f U2⟨hlg2,hM,hnd,hlts,hgood⟩;have hm2:∀U':Qa T,(∀x o,U1.I x=some o->U'.I x=some o)->(∀r∈U1.M,r∈U'.M)->U'.has mb (Qt Qbg (b.dcM r (2^b.cs.length))):=λ U' h1 h2=>hm.imp (h1 _ _) (h2 _);have hlen:∀s,J1 mb (2^b.cs.length) s=J1 mb (b.dcM r (2^b.cs.length)).length s:=λ s=>by rw[Bk.dcM_len]
 conv=>whnf
 refine Qv2 (b:=mb) (r:=it) (seen:=seen) (enc:=Qbg) (l:=b.dcM r (2^b.cs.length)) (λ o=>.obj it o::U1.M) rfl (hm2 _ hlg2.imm λ r hr=>by rw[hM];exact mem_cons_of_mem _ hr) (λ o=>by rw[hM,hlen];exact .here) (λ hall=>?_) (λ d p hp hni=>?_)
 .have hP:b.dcP r q=true:=by
   unfold Bk.dcP;rw[all_eq_true];intro d hd;rw[mem_range]at hd;exact hgood d (hall d (by rw[Bk.dcM_len];exact hd))
  rw[hP]
  repeat refine⟨rfl,?_⟩
  conv=>whnf
  exact⟨hlg2.imm,⟨[_],hM⟩,hlg2.tok⟩
 .have hdl:d<2^b.cs.length:=by have:=(List.getElem?_eq_some_iff.1 hp).1;rwa [Bk.dcM_len]at this
  rw[b.dcM_get hdl]at hp;cases hp;have hd60:d<2^60:=Nat.lt_of_lt_of_le (by omega:d<32) (by decide)
  have hnd':(seen.push d).toList.Nodup:=by
   rw[Array.toList_push,nodup_append];refine⟨hnd,by simp,λ x hx y hy=>?_⟩;rw[mem_singleton.1 hy];rintro rfl;exact hni (by simpa using hx)
  have hlts':∀j∈(seen.push d).toList,j<2^b.cs.length:=by
   intro j hj;rw[Array.toList_push,mem_append]at hj;rcases hj with hj|hj
   .exact hlts j hj
   .rw[mem_singleton.1 hj];exact hdl
  have hdec:2^b.cs.length-(seen.push d).size<2^b.cs.length-seen.size:=by
   have:=Qbi hnd' hlts';rw[Array.length_toList,Array.size_push]at this;rw[Array.size_push];omega
  have hlg3:U1.frz.lg ({ U2 with M:=.obj it (J1 mb (b.dcM r (2^b.cs.length)).length (seen.push d))::U1.M }:Qa T):=⟨hlg2.imm,⟨_,(append_nil _).symm⟩,hlg2.tok⟩;have hM3:({ U2 with M:=.obj it (J1 mb (b.dcM r (2^b.cs.length)).length (seen.push d))::U1.M }:Qa T).M=.obj it (J1 mb (2^b.cs.length) (seen.push d))::U1.M:=by rw[hlen]
  generalize({ U2 with M:=.obj it (J1 mb (b.dcM r (2^b.cs.length)).length (seen.push d))::U1.M }:Qa T)=U3 at hlg3 hM3 ⊢;have hm3:=hm2 U3 hlg3.imm λ r hr=>by rw[hM3];exact mem_cons_of_mem _ hr
  have hb83:=hb8.imI hlg3.imm;have hlg13:U1.lg U3:=⟨hlg3.imm,⟨[_],hM3⟩,hlg3.tok⟩
  have hfin:∀h:(!(d&&&Qmi q==0&&b.dcS r d != b.dcS r 0))=true,∀i∈seen.push d,(!(i&&&Qmi q==0&&b.dcS r i != b.dcS r 0))=true:=λ h i hi=>by
   rcases Array.mem_push.1 hi with hi|rfl
   .exact hgood i hi
   .exact h
  have hbad:(d&&&Qmi q==0&&b.dcS r d != b.dcS r 0)=true->b.dcP r q=false:=λ h=>by
   cases hh:b.dcP r q with
   |false=>rfl
   |true=>
    unfold Bk.dcP at hh;rw[all_eq_true]at hh;have:=hh d (by simpa using hdl);rw[h]at this;cases this
  repeat refine⟨rfl,?_⟩
  conv=>whnf
  refine Qox (b:=mb) (r:=it) (seen:=seen) (enc:=Qbg) (l:=b.dcM r (2^b.cs.length)) rfl hm3 (.inr (by rw[hM3,hlen];exact mem_cons_self ..)) (b.dcM_get hdl) ?_;refine⟨Qa6.any,(Jd a q.length cap q (hqi.lg hlg3) (by omega) q60).go λ _=>?_⟩;have hand:=Zm5 hd60 qo
  have hanb:((IntKind.wrap .i64 ((BitVec.ofInt 64 ((d:Nat):Int)&&&BitVec.ofInt 64 ((Qmi q:Nat):Int)).toNat:Int))==0)=(d&&&Qmi q==0):=by
   rw[hand,Bool.eq_iff_iff,beq_iff_eq,beq_iff_eq];omega
  repeat refine⟨rfl,?_⟩
  conv=>whnf
  apply Zc<;>intro hc
  .have h1:(d&&&Qmi q==0)=true:=hanb.symm.trans hc;rw[h1,Bool.true_and]at hbad hfin;refine⟨_,hb83.sees3 (o:=0) rfl,?_⟩
   conv=>whnf
   refine Qke (b:=mb) (k:=((0:Nat):Int)) (l:=b.dcM r (2^b.cs.length)) Qhp Qok Zm3 rfl rfl hm3 ?_;rw[b.dcM_at hpos,Option.getD_some]
   repeat refine⟨rfl,?_⟩
   conv=>whnf
   apply Qe<;>intro hc
   .rw[hbad hc]
    repeat refine⟨rfl,?_⟩
    conv=>whnf
    exact hlg13
   .have hc':(b.dcS r d != b.dcS r 0)=false:=hc;rw[hc']at hfin
    conv=>whnf
    exact⟨rfl,seen.push d,by trivial,⟨hlg3,hM3,hnd',hlts',hfin rfl⟩,hdec⟩
  .have h1:(d&&&Qmi q==0)=false:=hanb.symm.trans hc;rw[h1,Bool.false_and]at hfin
   conv=>whnf
   exact⟨rfl,seen.push d,by trivial,⟨hlg3,hM3,hnd',hlts',hfin rfl⟩,hdec⟩
def Qqj(h:BH)(b:Bk)(hb:Zt U.frz h b)(hk:Chk U)(r:Int):Qb S 23 #[h.v,.int .i64 r] (λ v U'=>(∃v1,v=.tuple #[v1,.int .i64 (b.askF r)]/\Qcu U'.frz v1 (b.dcF r))/\U.le U') U:=by
 refine Qb.grown (R:=λ v U'=>∃v1,v=.tuple #[v1,.int .i64 (b.askF r)]/\Qcu U' v1 (b.dcF r)) (λ v U1 U2 hl⟨v1,e,h1⟩=>⟨v1,e,h1.lg hl⟩) (Qb.of (args:=[_,_]) Qsg Qd (by simp) ?_);have hcl:=hb.cs.1
 repeat refine⟨rfl,?_⟩
 conv=>whnf
 intro B U1 h_1 hB;have hB:Zd U1 B #[.slice h.ra h.rl h.rc,.slice h.ca h.cl h.cc]:=hB;refine⟨_,⟨rfl,hB.reads (λ k v hv=>by simpa using hv)⟩,?_⟩;refine⟨Qhn.any,(Qb5 h b (hb.lg h_1.lg.frz2) (hk.lg h_1.lg) r).go λ _=>?_⟩
 conv=>whnf
 intro b6 hf6;refine⟨_,.refl _,?_⟩;by_cases hF:b.askF r=0
 .obtain⟨hok,hr0,hr1⟩:=Bk.askF_ok hF;obtain⟨q,rfl⟩:=Int.eq_ofNat_of_zero_le hr0;have hq:q<b.rs.length:=by unfold Bk.nr at hr1;omega
  have hnc:=hok.nc;have h32:=Q6v hnc;have hdc:b.dcF (q:Int)=b.dcL q:=by unfold Bk.dcF;rw[if_pos hF,Int.toNat_natCast]
  rw[if_pos hF,hF,hdc];refine⟨rfl,Zs (vs:=[.slice h.ra h.rl h.rc,.slice h.ca h.cl h.cc]) hf6 rfl (by simp[Value.single]) λ U2 h_2 hb6=>?_⟩;have hb6:Zd U2 b6 #[.slice h.ra h.rl h.rc,.slice h.ca h.cl h.cc]:=hb6;have hB:=hB.le h_2;have hle_2:=h_1.trans h_2
  repeat refine⟨rfl,?_⟩
  conv=>whnf
  refine Qck Qbg λ mb hmb=>?_
  conv=>whnf
  intro b8 hf8;refine⟨_,.refl _,rfl,Zs (vs:=[.map (some mb)]) hf8 rfl (by simp[Value.single]) λ U3 h_3 hb8=>?_⟩
  have hM_3:U3.M=.obj mb (Qt Qbg (b.dcM q 0))::U.M:=by
   rw[h_3.own];show _::U2.M=_;rw[hle_2.own];rfl
  have hlg_3:U2.frz.lg U3:=⟨λ x o hx=>h_3.imm x o hx,⟨_,(append_nil _).symm⟩,h_3.tok⟩
  have e1:IntKind.wrap .i64 ((1:Int)*2^(min ((h.cl:Int).toNat) (IntKind.bits .i64)))=((2^b.cs.length:Nat):Int):=by
   rw[hcl,<- Nat.one_shiftLeft];exact Q1m (by omega)
  clear hf6 hf8 hmb h_3;refine⟨_,(hB.imI hlg_3.imm).sees3 (o:=1) rfl,by omega,?_⟩;rw[e1]
  refine⟨Nat,λ m=>[(1,.int .i64 q),(2,.pointer (some ⟨B,0,none⟩)),(6,.pointer (some ⟨b6,0,none⟩)),(8,.pointer (some ⟨b8,0,none⟩)),(25,.int .i64 (2^b.cs.length:Nat)),(26,.int .i64 m)],
   λ m U'=>U3.frz.lg U'/\U'.M=.obj mb (Qt Qbg (b.dcM q m))::U.M/\m<=2^b.cs.length,λ m=>2^b.cs.length-m,0,by trivial,⟨⟨λ _ _ h=>h,⟨_,(append_nil _).symm⟩,rfl⟩,hM_3,Nat.zero_le _⟩,?_⟩
  rintro m f U4⟨hlg,hM,hm⟩;have hin:Zm ((m:Int)+1):=by unfold Zm;omega
  have hI24:∀x o,U2.I x=some o->U4.I x=some o:=λ x o hx=>hlg.imm x o (hlg_3.imm x o hx);have hb64:=hb6.imI hI24;have hb84:=hb8.imI hlg.imm;have hf4:U.frz.lg U4.frz:=⟨λ x o hx=>hI24 x o (hle_2.imm x o hx),⟨[],rfl⟩,hlg.tok.trans (hlg_3.tok.trans hle_2.tok)⟩
  repeat refine⟨rfl,?_⟩
  conv=>whnf
  apply Qe<;>intro hc
  .have hlt:m<2^b.cs.length:=Int.ofNat_lt.1 (of_decide_eq_true hc);refine⟨_,hb84.sees3 (o:=0) rfl,_,⟨rfl,hb64.reads (λ k v hv=>by simpa using hv)⟩,?_⟩;refine⟨λ v U'=>∃h':BH,v=h'.v/\Zt U'.frz h' (b.wo m.testBit),λ v U1 U2⟨h',e,hb⟩hle=>⟨h',e,hb.lg hle.lg.frz2⟩,λ U' hle _=>?_,λ v hv=>?_⟩
   .refine⟨Qsl.any,(Qgu h b (hb.lg (hf4.trans hle.lg.frz2)) hok m (Nat.lt_of_lt_of_le (by omega:m<32) (by decide))).mono ?_⟩;rintro v U''⟨⟨h',e,hb',-⟩,hle'⟩-;exact⟨U'',.refl _,⟨h',e,hb'⟩,hle'⟩
   obtain⟨_,-,-,h',rfl,-⟩:=hv;refine⟨.int .i64 (b.dcS q m),λ U' hle hC=>?_,?_⟩
   .obtain⟨-,h'',e,hbw⟩:=hC;have e':=Value.agg.inj e
    obtain rfl:h'=h'':=by
     obtain⟨x1,x2,x3,x4,x5,x6⟩:=h';obtain⟨y1,y2,y3,y4,y5,y6⟩:=h'';simp at e';simp[e']
    refine⟨Qff.any,(Qcx h' _ hbw (hok.wo _) q hq).mono ?_⟩;rintro _ U''⟨rfl,hU⟩-;exact⟨rfl,_,.refl _,hU▸.refl _⟩
   conv=>whnf
   intro U5 h_5 _
   conv=>whnf
   refine Qe7 (b:=mb) (k:=((m:Nat):Int)) (l:=b.dcM q m) (v:=.int .i64 (b.dcS q m)) (M':=.obj mb (Qt Qbg (b.dcM q (m+1)))::U.M) Qhp Qok rfl rfl rfl (by rw[h_5.own,hM,b.dcM_succ];exact .here) ?_;refine⟨hin,?_⟩
   conv=>whnf
   exact⟨rfl,m+1,by trivial,⟨⟨λ x o hx=>h_5.imm x o (hlg.imm x o hx),⟨_,(append_nil _).symm⟩,h_5.tok.trans hlg.tok⟩,rfl,by omega⟩,by show _-_<_-_;omega⟩
  .have hge:m=2^b.cs.length:=Nat.le_antisymm hm (Nat.le_of_not_lt λ h=>absurd (Int.ofNat_lt.2 h) (of_decide_eq_false hc));subst hge;have hB4:=hB.imI hI24;refine⟨_,⟨rfl,hb64.reads (λ k v hv=>by simpa using hv)⟩,?_⟩;refine⟨_,hB4.sees3 (o:=1) rfl,λ v U'=>J0 U'.frz v b.every,λ v U1 U2 hi hle=>hi.lg hle.lg.frz2,λ U' hle _=>?_,λ v hv=>?_⟩
   .refine⟨Qsk.any,(Qjj h b (hb.lg (hf4.trans hle.lg.frz2)) (by omega)).mono ?_⟩;rintro v U''⟨hv,hle'⟩-;exact⟨U'',.refl _,hv,hle'⟩
   obtain⟨_,-,-,ea,ec,rfl,-⟩:=hv;have hel:b.every.length=h.cl:=by simp[Bk.every,hcl]
   refine⟨λ v U'=>∃v1,v=.tuple #[v1,.bool (Qbh b.every (b.dcP q) 0 (b.cs.length+1)).isSome]/\Qcu U'.frz v1 (b.dcL q),λ v U1 U2⟨v1,e,hi⟩hle=>⟨v1,e,hi.lg hle.lg.frz2⟩,λ U' hle hC=>?_,λ v hv=>?_⟩
   .obtain⟨-,ea',ec',e1,hei⟩:=hC;cases e1;have hl:=Qjl (S:=S) (U:=U') b.every ea ec (Qmm hei) (by rw[hel];omega) b.cs.length (by omega) 60 #[] #[.pointer (some ⟨b8,0,none⟩)] Q3p.any (b.dcP q) (Q7s b hnc q (hb84.le hle) (.inr (by rw[hle.own,hM];exact mem_cons_self ..)))
    conv=>whnf
    rw[<- hcl];refine⟨Qsj.any,hl.mono ?_⟩;rintro v U''⟨hv,hle'⟩-;exact⟨U'',.refl _,hv,hle'⟩
   obtain⟨_,-,-,v1,rfl,wa,wc,rfl,-⟩:=hv
   conv=>whnf
   intro U5 h_5 hC;obtain⟨-,v1',e1,hi⟩:=hC
   obtain⟨e2,-⟩:(Value.slice wa (b.dcL q).length wc=v1')/\True:=by
    have:=Value.tuple.inj e1;simp at this;exact⟨this,trivial⟩
   subst e2
   repeat refine⟨rfl,?_⟩
   refine⟨⟨_,rfl,hi⟩,⟨λ x o hx=>h_5.imm x o (hf4.imm x o hx),⟨[_],h_5.own.trans hM⟩,h_5.tok.trans hf4.tok⟩⟩
 .have hdc:b.dcF r=[]:=by unfold Bk.dcF;rw[if_neg hF]
  rw[if_neg hF,hdc];refine⟨rfl,Zs (vs:=[.slice none 0 0,.slice none 0 0]) hf6 rfl (by simp[Value.single]) λ U3 h_3 hb6=>?_⟩
  repeat refine⟨rfl,?_⟩
  conv=>whnf
  apply Qe<;>intro hc
  .repeat refine⟨rfl,?_⟩
   conv=>whnf
   exact⟨⟨_,rfl,.nil⟩,(h_1.trans h_3).lg⟩
  .exact absurd (by simpa using hc) hF
def Qhb(h:BH)(b:Bk)(hb:Zt U.frz h b)(hk:Chk U)(r:Int):Qb S 23 #[h.v,.int .i64 r] (λ v U'=>(∃v1,v=.tuple #[v1,.int .i64 (b.askF r)]/\J0 U'.frz v1 (b.dcF r))/\U.le U') U:=
 (Qqj h b hb hk r).mono λ v U'⟨⟨v1,e,h1⟩,h2⟩=>⟨⟨v1,e,h1.v⟩,h2⟩
end Go.Proofs
namespace Go.TM
variable{T:Type}{P:Program}{S:Sys P T}{U U':Qa T}
def Zfd{n:Int}:∀{l:List Int},l.Pairwise (· < ·)->n∉l->(Qcz n l).Pairwise (· < ·)
 |[],_,_=>by simp[Qcz]
 |y::l,h,hn=>by
  obtain⟨h1,h2⟩:=pairwise_cons.1 h;unfold Qcz;split
  .refine pairwise_cons.2 ⟨λ x hx=>?_,Zfd h2 λ hm=>hn (by simp[hm])⟩;rcases(Qh7 n x l).1 hx with rfl|hx
   .assumption
   .exact h1 x hx
  .rename_i hge;have hne:n≠y:=λ e=>hn (by simp[e]);refine pairwise_cons.2 ⟨λ x hx=>?_,h⟩;rcases mem_cons.1 hx with rfl|hx
   .omega
   .have:=h1 x hx;omega
structure Bk.Ok1(b:Bk):Prop where
 nr:b.rs.length<=6
 nc:b.cs.length<=5
 ag:∀c∈b.cs,0<=c.ag/\c.ag<b.nr
 gl:∀c∈b.cs,c.gs.length<=3
 gs:∀c∈b.cs,∀g∈c.gs,g.length<=3/\∀n∈g,0<=n/\n<b.nr
 ri:∀c∈b.cs,c.af.Pairwise (· < ·)
 af:∀c∈b.cs,∀n∈c.af,0<=n/\n<b.nc
def Bk.Ok.ok1{b:Bk}(h:b.Ok):b.Ok1:=⟨h.nr,h.nc,h.ag,h.gl,h.gs,λ _ hc=>(h.asc hc).2,h.af⟩
def Bk.Ok1.ok{b:Bk}(h:b.Ok1)(hl:Wz b.A=false):b.Ok:=
 ⟨h.nr,h.nc,h.ag,h.gl,h.gs,λ c hc=>Q1j (h.ri c hc) (h.af c hc) (λ m e=>by cases e),h.af,hl⟩
def Bk.Ok1.low{b:Bk}(h:b.Ok1):b.Low:=⟨h.nc,h.af⟩
structure Bk.Fr(b:Bk)(s:Int×Int):Prop where
 c0:0<=s.1
 cl:s.1.toNat<b.cs.length
 u0:0<=s.2
 ul:s.2<b.nc
 no:s.2∉(b.cas s.1.toNat).af
def Bk.sty_cs(b:Bk)(s:Int×Int){c:Cs}(h:c∈(b.sty s).cs):c∈b.cs\/c={ b.cas s.1.toNat with af:=Qcz s.2 (b.cas s.1.toNat).af }:=mem_or_eq_of_mem_set h
def Bk.Ok1.sty{b:Bk}(h:b.Ok1){s:Int×Int}(hs:b.Fr s):(b.sty s).Ok1:=by
 have hcm:=Bk.cas_mem hs.cl;have hnc:(b.sty s).nc=b.nc:=by unfold Bk.nc;rw[b.sty_len]
 refine⟨h.nr,by rw[b.sty_len];exact h.nc,λ c hc=>?_,λ c hc=>?_,λ c hc=>?_,λ c hc=>?_,λ c hc=>?_⟩ <;> rcases b.sty_cs s hc with hc|rfl
 .exact h.ag c hc
 .exact h.ag (b.cas s.1.toNat) hcm
 .exact h.gl c hc
 .exact h.gl (b.cas s.1.toNat) hcm
 .exact h.gs c hc
 .exact h.gs (b.cas s.1.toNat) hcm
 .exact h.ri c hc
 .exact Zfd (h.ri _ hcm) hs.no
 .rw[hnc];exact h.af c hc
 .rw[hnc];intro n hn;rcases(Qh7 s.2 n _).1 hn with rfl|hn
  .exact⟨hs.u0,hs.ul⟩
  .exact h.af _ hcm n hn
def Bk.Fr.sty{b:Bk}{s s':Int×Int}(hs:b.Fr s)(h:b.Fr s')(hne:s'≠s):(b.sty s).Fr s':=by
 refine⟨h.c0,by rw[b.sty_len];exact h.cl,h.u0,by unfold Bk.nc;rw[b.sty_len];exact h.ul,?_⟩;by_cases e:s.1.toNat=s'.1.toNat
 .have e2:s'.1=s.1:=by have:=hs.c0;have:=h.c0;omega
  have:(b.sty s).cas s'.1.toNat={ b.cas s.1.toNat with af:=Qcz s.2 (b.cas s.1.toNat).af }:=by
   refine Bk.cas_at ?_;show(b.cs.set s.1.toNat _)[s'.1.toNat]?=_;rw[getElem?_set,if_pos e,if_pos hs.cl]
  rw[this];intro hm;rcases(Qh7 s.2 s'.2 _).1 hm with e3|hm
  .exact hne (Prod.ext e2 e3)
  .exact h.no (by rw[<- e];exact hm)
 .have:(b.sty s).cas s'.1.toNat=b.cas s'.1.toNat:=by
   show(b.cs.set s.1.toNat _).getD s'.1.toNat default=_;rw[getD_eq_getElem?_getD,getElem?_set,if_neg e,<- getD_eq_getElem?_getD];rfl
  rw[this];exact h.no
def Bk.Ok1.stys{b:Bk}(h:b.Ok1):∀{l:List (Int×Int)},(∀s∈l,b.Fr s)->l.Nodup->(b.stys l).Ok1:=by
 intro l
 induction l generalizing b with
 |nil=>exact λ _ _=>h
 |cons s l ih=>
  intro hl hn;obtain⟨h1,h2⟩:=nodup_cons.1 hn;exact ih (b:=b.sty s) (h.sty (hl s (by simp))) (λ s' hs'=>(hl s (by simp)).sty (hl s' (by simp[hs'])) λ e=>h1 (e▸hs')) h2
def Bk.stys_rs(b:Bk)(l:List (Int×Int)):(b.stys l).rs=b.rs:=by
 induction l generalizing b with
 |nil=>rfl
 |cons s l ih=>exact ih (b.sty s)
def Bk.cans_fr{b:Bk}{s:Int×Int}(h:s∈b.cans):b.Fr s:=by
 simp only[Bk.cans,mem_flatMap,mem_range,mem_map,mem_filter,Bool.and_eq_true,Bool.not_eq_true',contains_eq_mem,decide_eq_false_iff_not]at h;obtain⟨i,hi,k,⟨hk,-,hno⟩,rfl⟩:=h;exact⟨by simp,by simpa using hi,by simp,by unfold Bk.nc;simp only;omega,by simpa using hno⟩
def Bk.good(b:Bk)(r:Nat)(w:Int)(l:List (Int×Int)):Bool:=!Wz (b.stys l).A&&(b.stys l).fatR r==w
end Go.TM
namespace Go.Proofs
open Go.TM
variable{T:Type}{S:TM.Sys prog T}{U:Qa T}
attribute [local irreducible] Qb Zh We
def Qqo(h:BH)(b:Bk)(hb:Zt U.frz h b)(hok:b.Ok)(l:List (Int×Int))(a:Option Addr)(c:Nat)(hl:Qx U a l.length 2 l (λ x vs=>vs=encII x))(hlen:l.length<=6)(hin:∀s∈l,b.Fr s) :
  Qb S 90 #[h.v,.slice a l.length c] (λ v U'=>(∃h':BH,v=h'.v/\Zt U'.frz h' (b.stys l))/\U.le U') U:=by
 have hnc:=hok.nc;refine(Qte h b hb hok.sml l a c hl hlen hok.srt λ s hs=>⟨(hin s hs).c0,(hin s hs).cl⟩).okv λ v U' hw⟨⟨h',hv,ho⟩,hI,ht⟩=>?_;obtain⟨U'',k1,k2,k3,k4⟩:=ho.freeze hw (by rw[Bk.stys_len];omega);exact⟨U'',k1,⟨h',hv,k4⟩,⟨λ x q hx=>k3.imm x q (hI x q hx),k2,k3.tok.trans ht⟩⟩
end Go.Proofs
namespace Go.TM
open Go.Proofs (encII)
variable{T:Type}{P:Program}{S:Sys P T}{U U':Qa T}
def Zjo{α:Type}{enc:α->List Value}{n:Nat}(hn:∀x,(enc x).length=n){a:Option Addr}{l:List α}(h:Qx U a l.length n l λ x vs=>vs=enc x)(hpos:0<n):Src U a (l.flatMap enc):=by
 cases a with
 |none=>
  cases l with
  |nil=>exact .inl ⟨rfl,rfl⟩
  |cons x l=>
   obtain⟨ad,vs,e,_⟩:=h.2 0 x rfl;cases e
 |some ad=>
  refine .inr ⟨ad,rfl,λ j v hv=>?_⟩;have hj:=(List.getElem?_eq_some_iff.1 hv).1;rw[Q0 hn]at hj;have hi:j / n<l.length:=Nat.div_lt_of_lt_mul (by rw[Nat.mul_comm];exact hj);have hk:j % n<n:=Nat.mod_lt _ hpos;obtain⟨ad',vs,e,hsp,rfl,hl,hr⟩:=h.2 (j / n) _ (getElem?_eq_getElem hi);cases e;have hjj:j / n*n+j % n=j:=by rw[Nat.mul_comm];exact Nat.div_add_mod j n
  have h1:=Qdl hn (getElem?_eq_getElem hi) hk;rw[hjj,hv]at h1;have h2:=hr (j % n) v h1.symm;obtain⟨bb,oo,ss⟩:=ad;cases hsp;rw[Qo,Qo,Nat.add_assoc,hjj]at h2;rw[Qo];exact h2
def bst:Option (List (Int×Int))->Option (List (Int×Int))->Option (List (Int×Int))
 |none,y=>y
 |some x,none=>some x
 |some x,some y=>some (if Qcp x y<0 then x else y)
def nb(l:List (Int×Int)):Option (List (Int×Int))->List (Int×Int)
 |none=>l
 |some y=>if Qcp l y<0 then l else y
def Zm6(f:Fm)(x:Operand)(v:Value)(h:Zl f x=v):((#[]++Array.map (Zl f) #[x])++#[]:Array Value)=#[v]:=by simp[h]
def SpM(fb bb:Nat)(o:Option (List (Int×Int)))(M:List Qv):Prop:=∃a l c A,Jx 78 2 (.slice a l c) ((o.getD []).flatMap encII) A/\(∀x,o=some x->l=x.length)/\M=.obj fb (.cells [.bool o.isSome].toArray 4 (0,0))::.obj bb (.cells [.slice a l c].toArray 70 (0,0))::A
def spC(fb bb:Nat)(Lf Lt:Option (List (Int×Int)))(a b:Bool):TM.Spec:=SpM fb bb (bst (if a then Lf else none) (if b then Lt else none))
structure TrE(U:Qa T)(h:BH)(b:Bk)(r:Nat)(w:Int)(i:Nat)(bcan bfst bbk brt bwt:Nat):Prop where
 can:∃a c,Zd U bcan #[.slice a b.cans.length c]/\Qx U.frz a b.cans.length 2 b.cans (λ x vs=>vs=encII x)/\b.cans.length<=c
 fst:Zd U bfst #[.int .i64 i]
 bk:Zd U bbk #[.slice h.ra h.rl h.rc,.slice h.ca h.cl h.cc]
 bv:Zt U.frz h b
 rt:Zd U brt #[.int .i64 r]
 wt:Zd U bwt #[.int .i64 w]
def TrE.imI{h:BH}{b:Bk}{r i:Nat}{w:Int}{bcan bfst bbk brt bwt:Nat}(k:TrE U h b r w i bcan bfst bbk brt bwt)(hI:∀x o,U.I x=some o->U'.I x=some o)(ht:U'.tok=U.tok):TrE U' h b r w i bcan bfst bbk brt bwt:=
 ⟨let ⟨a,c,h1,h2,h3⟩:=k.can;⟨a,c,h1.imI hI,h2.lg ⟨hI,⟨[],rfl⟩,ht⟩ (λ _ _ h=>h),h3⟩,k.fst.imI hI,k.bk.imI hI,k.bv.lg ⟨hI,⟨[],rfl⟩,ht⟩,k.rt.imI hI,k.wt.imI hI⟩
end Go.TM
namespace Go.Proofs
open Go.TM
attribute [local irreducible] Qb Zh We
set_option maxHeartbeats 2000000 in
def Qw5{U₀:Qa Tk}(h:BH)(b:Bk)(hok:b.Ok)(hnd:b.cans.Nodup)(r:Nat)(hr:r<b.rs.length)(w:Int)(i:Nat){bcan bfst bbk brt bwt lm fb bb g:Nat}{D:TM.Spec}{ci:Int×Int}(hci:b.cans[i]?=some ci)(he:TrE U₀ h b r w i bcan bfst bbk brt bwt)
  (Lf Lt:Option (List (Int×Int))) (h1000:∀x,Lf=some x\/Lt=some x->x.length<=1000) (hsym:∀x y,Lf=some x->Lt=some y->(if Qcp y x<0 then y else x)=(if Qcp x y<0 then x else y))
  (m:Nat) (hm:m<=5) (mt:Option MuT) (htok:U₀.tok=⟨0,.wrk g D,mt⟩)
  (hfirst:∀k q,(TM.parts (b.cans.drop (i+1)) m)[k]?=some q->(∀q'∈(TM.parts (b.cans.drop (i+1)) m).take k,b.good r w (ci::q')=false)->b.good r w (ci::q)=true->∃s lo,mt=some (.lok ⟨lm,168,spC fb bb Lf Lt⟩ s .idle lo)/\(if s then Lt else Lf)=some (ci::q)) :
  Qxo Q8 89 #[] #[.pointer (some ⟨bcan,0,none⟩),.pointer (some ⟨bfst,0,none⟩),.pointer (some ⟨bbk,0,none⟩),.pointer (some ⟨brt,0,none⟩),.pointer (some ⟨bwt,0,none⟩),.pointer (some ⟨lm,0,none⟩),.pointer (some ⟨fb,0,none⟩),.pointer (some ⟨bb,0,none⟩)] encII 2 (TM.parts (b.cans.drop (i+1)) m)
   (λ k U'=>U'.tok=⟨0,.wrk g D,mt⟩/\∀q∈(TM.parts (b.cans.drop (i+1)) m).take k,b.good r w (ci::q)=false)
   (λ U'=>∃s lo,U'.tok=⟨0,.wrk g D,some (.lok ⟨lm,168,spC fb bb Lf Lt⟩ s .fin lo)⟩) U₀:=by
 intro k q qa qc U X Mc hq h0 hrows hsp hM⟨htk,hno⟩;have htk:U.tok=⟨0,.wrk g D,mt⟩:=htk;have he:=TrE.imI (U':=U) he h0.imm h0.tok;obtain⟨hqs,hql⟩:=Qc6.1 (mem_of_getElem? hq)
 have hsub:(ci::q).Sublist b.cans:=by
  have h1:b.cans.drop i=ci::b.cans.drop (i+1):=Qbe hci;have h2:(ci::q).Sublist (b.cans.drop i):=by rw[h1];exact hqs.cons_cons ci
  exact h2.trans (drop_sublist i b.cans)
 have hfr:∀s∈ci::q,b.Fr s:=λ s hs=>Bk.cans_fr (hsub.subset hs);have hok1:(b.stys (ci::q)).Ok1:=hok.ok1.stys hfr (hnd.sublist hsub);have hlen:(ci::q).length<=6:=by simp;omega
 have hil:i<b.cans.length:=(List.getElem?_eq_some_iff.1 hci).1;refine Qb.post (R:=λ v U'=>(v=.bool false/\b.good r w (ci::q)=false/\U.lg U')\/(v=.bool true/\(∃s lo,U'.tok=⟨0,.wrk g D,some (.lok ⟨lm,168,spC fb bb Lf Lt⟩ s .fin lo)⟩)/\∀x o,U.I x=some o->U'.I x=some o)) ?_ λ v U' hv=>?_
 rotate_left
 .rcases hv with⟨rfl,hg,hlg⟩|⟨rfl,ht,hI⟩
  .obtain⟨A,hA⟩:=hlg.own;refine⟨{ U' with M:=U.M },Z4 (by rw[hA];exact sublist_append_right ..),.inl ⟨rfl,⟨hlg.imm,⟨[],rfl⟩,hlg.tok⟩,Mc,hM,hlg.tok.trans htk,λ q' hq'=>?_⟩⟩;rw[Jt hq,mem_append]at hq';rcases hq' with hq'|hq'
   .exact hno q' hq'
   .rw[mem_singleton.1 hq'];exact hg
  .exact⟨U',.refl _,.inr ⟨rfl,[],U'.M,rfl,ht,hI⟩⟩
 refine Qb.ofD (args:=[_,_,_,_,_,_,_,_,_]) Q35 Qd (by simp) ?_;obtain⟨ca,cc,hbc,hcr,-⟩:=he.can;obtain⟨ad,x,vs,hx,rfl,hspa,rfl,-,hrd⟩:=hcr.at hil;rw[hci]at hx;cases hx;refine⟨_,hbc.sees3 (o:=0) rfl,_,he.fst.sees3 (o:=0) rfl,ad,i,⟨rfl,rfl,hil⟩,_,⟨rfl,hrd.lg Qq⟩,?_⟩
 conv=>whnf
 intro b17 hf17;refine⟨U.put b17 (.cells (encII ci).toArray 78),.refl _,?_⟩;have hlp:=Z0 (U:=U) b17 (.cells (encII ci).toArray 78);have hMp:(U.put b17 (.cells (encII ci).toArray 78)).M=.obj b17 (.cells (encII ci).toArray 78 (0,0))::U.M:=rfl;generalize U.put b17 (.cells (encII ci).toArray 78)=Up at hlp hMp ⊢
 conv=>whnf
 refine Ws (v:=.slice (some ⟨b17,0,none⟩) 1 1) (cs:=encII ci) (new:=q.flatMap encII) (M₀:=U.M) Qiu rfl rfl (.inr ⟨b17,(encII ci).toArray,1,1,rfl,rfl,Nat.le_refl _,rfl,hMp,λ k v hv=>by simpa using hv⟩) (Zjo (enc:=encII) (n:=2) (λ _=>rfl) (hrows.lg (Qq.trans hlp) λ _ _ h=>h) (by decide)) (Q0 (f:=encII) (n:=2) (λ _=>rfl) q) (λ v hv=>by
  obtain⟨y,-,hy⟩:=mem_flatMap.1 hv;simp[encII]at hy;rcases hy with rfl|rfl <;> rfl) (by rw[Q0 (f:=encII) (n:=2) (λ _=>rfl)];simp[encII];omega) λ v' M' ha' _=>?_
 have ha':Acc 78 2 v' ((ci::q).flatMap encII) M' U.M:=by simpa using ha'
 obtain⟨A,hMA,hA⟩:=ha'.split;obtain⟨la,ll,lc,rfl,hll⟩:=hA.src;have hll:(ci::q).length=ll:=by have e:=(Q0 (f:=encII) (n:=2) (λ _=>rfl) (ci::q)).symm.trans hll;omega
 subst hll;have hlg1:U.lg ({ Up with M:=M' }:Qa Tk):=⟨hlp.imm,⟨A,hMA⟩,hlp.tok⟩
 have hl1:Qx ({ Up with M:=M' }:Qa Tk) la (ci::q).length 2 (ci::q) λ x vs=>vs=encII x:=by
  obtain⟨a2,l2,c2,e2,h2,h3⟩:=Acc.src (U:={ Up with M:=M' }) ha';obtain⟨rfl,-,-⟩:=Value.slice.inj e2;refine Qb1 (enc:=encII) (n:=2) (λ _=>rfl) h3 (λ ad e=>?_) (by decide);subst e;rcases ha' with⟨e1,_,_⟩|⟨b',c',len',cap',e1,_⟩
  .cases e1
  .cases e1;rfl
 generalize hU1:({ Up with M:=M' }:Qa Tk)=U1 at hlg1 hl1 ⊢;have hM_1:U1.M=A++U.M:=by rw[<- hU1];exact hMA
 clear hU1 hf17 hlp hMp;have he_1:=he.imI hlg1.imm hlg1.tok;refine⟨_,⟨rfl,he_1.bk.reads (λ k v hv=>by simpa using hv)⟩,?_⟩;refine⟨Q36.any,(Qqo (S:=Q8) (U:=U1) h b he_1.bv hok (ci::q) la lc hl1 hlen hfr).mono ?_⟩;rintro _ U2⟨⟨h',rfl,hb'⟩,h_2⟩-
 conv=>whnf
 intro b12 hf12;refine⟨_,.refl _,rfl,Zs (vs:=[.slice h'.ra h'.rl h'.rc,.slice h'.ca h'.cl h'.cc]) hf12 rfl (by simp[Value.single]) λ U3 h_3 hb12=>?_⟩;have hb12:Zd U3 b12 #[.slice h'.ra h'.rl h'.rc,.slice h'.ca h'.cl h'.cc]:=hb12;have hle:=h_2.trans h_3;have hb':=hb'.lg h_3.lg.frz2;have hM_3:=hle.own.trans hM_1;have he3:=he_1.imI hle.imm hle.tok;have hlg_3:=hlg1.trans hle.lg;refine⟨_,⟨rfl,hb12.reads (λ k v hv=>by simpa using hv)⟩,?_⟩;refine⟨.int .i64 (if Wz (b.stys (ci::q)).A then 8 else 0),λ U' hle' _=>?_,?_⟩
 .refine⟨Qsx.any,(Qjm h' _ ((hb'.lg hle'.lg.frz2).lg Qq) hok1.low).mono ?_⟩;rintro _ U''⟨rfl,hU⟩-;exact⟨rfl,_,.refl _,hU▸.refl _⟩
 cases hlp:Wz (b.stys (ci::q)).A with
 |true=>
  have hg:b.good r w (ci::q)=false:=by unfold Bk.good;rw[hlp];rfl
  refine⟨rfl,?_⟩
  conv=>whnf
  intro U4 h_4 _
  repeat refine⟨rfl,?_⟩
  conv=>whnf
  exact .inl ⟨rfl,hg,hlg_3.trans h_4.lg⟩
 |false=>
 have hok2:=hok1.ok hlp;have hgd:b.good r w (ci::q)=((b.stys (ci::q)).fatR r==w):=by unfold Bk.good;rw[hlp];rfl
 refine⟨rfl,_,⟨rfl,hb12.reads (λ k v hv=>by simpa using hv)⟩,?_⟩;refine⟨_,he3.rt.sees3 (o:=0) rfl,.int .i64 ((b.stys (ci::q)).fatR r),λ U' hle' _=>?_,?_⟩
 .refine⟨Qff.any,(Qcx h' _ (hb'.lg hle'.lg.frz2) hok2 r (by rw[Bk.stys_rs];exact hr)).mono ?_⟩;rintro _ U''⟨rfl,hU⟩-;exact⟨rfl,_,.refl _,hU▸.refl _⟩
 refine⟨_,he3.wt.sees3 (o:=0) rfl,?_⟩
 conv=>whnf
 intro U4 h_4 _;have hM4:=h_4.own.trans hM_3;have hlg_4:=hlg_3.trans h_4.lg;have hl4:Qx U4 la (ci::q).length 2 (ci::q) λ x vs=>vs=encII x:=hl1.lg (hle.trans h_4).lg λ _ _ h=>h
 repeat refine⟨rfl,?_⟩
 conv=>whnf
 apply Qe<;>intro hc
 .have hg:b.good r w (ci::q)=false:=by
   rw[hgd];have:(b.stys (ci::q)).fatR r≠w:=by simpa using hc
   simpa using this
  repeat refine⟨rfl,?_⟩
  conv=>whnf
  exact .inl ⟨rfl,hg,hlg_4⟩
 have hg:b.good r w (ci::q)=true:=by
  rw[hgd];have:(b.stys (ci::q)).fatR r=w:=by simpa using hc
  simpa using this
 obtain⟨s,lo,rfl,hLs⟩:=hfirst k q hq hno hg;have ht4:U4.tok=⟨0,.wrk g D,some (.lok ⟨lm,168,spC fb bb Lf Lt⟩ s .idle lo)⟩:=hlg_4.tok.trans htk
 have hlock:Qb Q8 92 #[.pointer (some ⟨lm,0,none⟩)] (λ v U'=>v=.tuple #[]/\∃v0 M lo',spC fb bb Lf Lt (if s then v0 else false) (if s then false else v0) M/\U'.M=M++U4.M/\(∀x o,U4.I x=some o->U'.I x=some o)/\U'.tok=⟨0,.wrk g D,some (.lok ⟨lm,168,spC fb bb Lf Lt⟩ s (.own v0) lo')⟩) U4:=by
  refine Qb.post (R:=λ v U'=>v=.tuple #[]/\∃v0 M lo',spC fb bb Lf Lt (if s then v0 else false) (if s then false else v0) M/\U'.M=U4.M++M/\(∀x o,U4.I x=some o->U'.I x=some o)/\U'.tok=⟨0,.wrk g D,some (.lok ⟨lm,168,spC fb bb Lf Lt⟩ s (.own v0) lo')⟩) (Q8e ht4 λ v0 M lo' hsp=>⟨rfl,v0,M,lo',hsp,rfl,λ _ _ h=>h,rfl⟩) λ v U'⟨hv,v0,M,lo',hsp,hM',hI,ht⟩=>?_;exact⟨{ U' with M:=M++U4.M },Qaa (by rw[hM'];exact perm_append_comm),hv,v0,M,lo',hsp,rfl,hI,ht⟩
 refine⟨Q7h,hlock.mono ?_⟩;rintro _ U5⟨rfl,v0,MS,lo',hSp,hM_5,hI_5,ht_5⟩-;obtain⟨ya,yl,yc,AY,hAY,hyl,rfl⟩:=hSp;have hM_5:U5.M=.obj fb (.cells [.bool (bst (if(if s then v0 else false)then Lf else none) (if(if s then false else v0)then Lt else none)).isSome].toArray 4 (0,0))::.obj bb (.cells [.slice ya yl yc].toArray 70 (0,0))::(AY++(A++U.M)):=by rw[hM_5,hM4];simp
 have fin:∀(M₁ M₂:List Qv)(U6:Qa Tk),U6.tok=U5.tok->(∀x o,U5.I x=some o->U6.I x=some o)->U6.M=M₁++M₂->spC fb bb Lf Lt (if s then v0 else true) (if s then true else v0) M₁ ->
   Qwc Q8 93 #[.pointer (some ⟨lm,0,none⟩)] (λ U'=>(Value.bool true=.bool false/\b.good r w (ci::q)=false/\U.lg U')\/(Value.bool true=.bool true/\(∃s lo,U'.tok=⟨0,.wrk g D,some (.lok ⟨lm,168,spC fb bb Lf Lt⟩ s .fin lo)⟩)/\∀x o,U.I x=some o->U'.I x=some o)) U6:=by
  intro M₁ M₂ U6 ht hI hM' hD;exact Q0u (ht.trans ht_5) hM' hD (.inr ⟨rfl,⟨s,lo',rfl⟩,λ x o hx=>hI x o (hI_5 x o (hlg_4.imm x o hx))⟩)
 generalize ho:bst (if(if s then v0 else false)then Lf else none) (if(if s then false else v0)then Lt else none)=o at hAY hyl hM_5
 have hnew:bst (if(if s then v0 else true)then Lf else none) (if(if s then true else v0)then Lt else none)=some (nb (ci::q) o):=by
  cases s with
  |false=>
   have hLs:Lf=some (ci::q):=hLs;have ho:bst none (if v0 then Lt else none)=o:=ho;show bst Lf (if v0 then Lt else none)=_;rw[hLs];have ho:(if v0 then Lt else none)=o:=ho;rw[ho];cases o <;> rfl
  |true=>
   have hLs:Lt=some (ci::q):=hLs;have ho:bst (if v0 then Lf else none) none=o:=ho;show bst (if v0 then Lf else none) Lt=_;rw[hLs]
   have ho:(if v0 then Lf else none)=o:=by
    rw[<- ho];cases(if v0 then Lf else none) <;> rfl
   rw[ho];cases o with
   |none=>rfl
   |some y=>
    have hLf:Lf=some y:=by
     cases v0 with
     |true=>exact ho
     |false=>cases ho
    show some (if Qcp y (ci::q)<0 then y else ci::q)=some (if Qcp (ci::q) y<0 then ci::q else y);rw[hsym y (ci::q) hLf hLs]
 have hsingle:(Value.slice la (ci::q).length lc).single=true:=rfl
 have rdf:∀U':Qa Tk,U'.M=U5.M->U'.sees ((Addr.mk fb 0 none)) (.bool o.isSome):=λ U' hM'=>by
  have:=J2 (U:=U') (b:=fb) (e:=4) (vs:=[.bool o.isSome]) (by rw[hM',hM_5];simp) 0 _ rfl;exact this
 repeat refine⟨rfl,?_⟩
 refine⟨_,rdf U5 rfl,?_⟩;cases o with
 |none=>
  refine⟨rfl,Q1q (b:=bb) (e:=70) (c:=[.slice ya yl yc].toArray) (L₁:=[.obj fb (.cells [.bool false].toArray 4 (0,0))]) (L₂:=A++(AY++U.M)) (vs:=[.slice la (ci::q).length lc]) (by
   rw[hM_5];refine Perm.cons _ (Perm.cons _ ?_);exact perm_append_comm_assoc _ _ _) rfl (by simp[Value.single]) λ U6 hI_6 ht_6 hM_6=>?_⟩
  refine⟨rfl,Js (b:=fb) (e:=4) (c:=[.bool false].toArray) (vs:=[.bool true]) (M₀:=.obj bb (.cells [.slice la (ci::q).length lc].toArray 70 (0,0))::(A++(AY++U.M))) [] hM_6 rfl (by simp[Value.single]) λ U7 hI_7 ht_7 hM_7=>?_⟩
  have hd:=fin (.obj fb (.cells [.bool true].toArray 4 (0,0))::.obj bb (.cells [.slice la (ci::q).length lc].toArray 70 (0,0))::A) (AY++U.M) U7 (ht_7.trans ht_6) (λ x o hx=>by rw[hI_7,hI_6];exact hx) (by rw[hM_7];simp) (by
   unfold spC;rw[hnew];exact⟨la,_,lc,A,hA,λ x hx=>by cases hx;rfl,rfl⟩)
  refine⟨rfl,Qj5,?_⟩;refine cast (congrArg (λ a=>Qwc Q8 93 a _ _) (Zm6 _ (.t 6) (.pointer (some ⟨lm,0,none⟩)) rfl).symm) ?_;exact hd.mono λ U' hq=>by(conv=>whnf);exact hq
 |some y=>
  have hyl:=hyl y rfl;subst hyl;have hAY:Jx 78 2 (.slice ya y.length yc) (y.flatMap encII) AY:=hAY
  have rdb:U5.sees (Addr.mk bb 0 none) (.slice ya y.length yc):=by
   have:=J2 (U:=U5) (b:=bb) (e:=70) (vs:=[.slice ya y.length yc]) (by rw[hM_5];simp) 0 _ rfl;exact this
  have hly:Qx U5 ya y.length 2 y λ x vs=>vs=encII x:=by
   have hacc:=hAY [];obtain⟨a2,l2,c2,e2,h2,h3⟩:=Acc.src (U:={ U5 with M:=AY++[] }) hacc;obtain⟨rfl,-,-⟩:=Value.slice.inj e2
   refine(Qb1 (enc:=encII) (n:=2) (λ _=>rfl) h3 (λ ad e=>?_) (by decide)).mem (λ _ _ h=>h) (λ r hr=>by
    have hr:r∈AY:=by simpa using hr
    rw[hM_5];simp[hr])
   subst e;rcases hacc with⟨e1,_,_⟩|⟨b',c',len',cap',e1,_⟩
   .cases e1
   .cases e1;rfl
  have hl5:Qx U5 la (ci::q).length 2 (ci::q) λ x vs=>vs=encII x:=hl4.mem hI_5 λ r hr=>by
   rw[hM4]at hr;rw[hM_5];simp at hr ⊢;rcases hr with hr|hr <;> simp[hr]
  have hy6:y.length<=1000:=by
   refine h1000 y ?_;cases s with
   |false=>
    have ho:(if v0 then Lt else none)=some y:=ho;cases v0 with
    |true=>exact .inr ho
    |false=>cases ho
   |true=>
    have ho:bst (if v0 then Lf else none) none=some y:=ho;cases v0 with
    |true=>
     have ho:bst Lf none=some y:=ho;refine .inl ?_;rw[<- ho];cases Lf <;> rfl
    |false=>cases ho
  repeat refine⟨rfl,?_⟩
  refine⟨_,rdb,Q37.any,(Qz3 (ci::q) y la ya lc yc hl5 hly (by omega) hy6).go λ _=>?_⟩
  repeat refine⟨rfl,?_⟩
  conv=>whnf
  apply Qe<;>intro hc
  .have hlt:Qcp (ci::q) y<0:=by simpa using hc
   refine⟨rfl,Q1q (b:=bb) (e:=70) (c:=[.slice ya y.length yc].toArray) (L₁:=[.obj fb (.cells [.bool true].toArray 4 (0,0))]) (L₂:=A++(AY++U.M)) (vs:=[.slice la (ci::q).length lc]) (by
    rw[hM_5];refine Perm.cons _ (Perm.cons _ ?_);exact perm_append_comm_assoc _ _ _) rfl (by simp[Value.single]) λ U6 hI_6 ht_6 hM_6=>?_⟩
   refine⟨rfl,Js (b:=fb) (e:=4) (c:=[.bool true].toArray) (vs:=[.bool true]) (M₀:=.obj bb (.cells [.slice la (ci::q).length lc].toArray 70 (0,0))::(A++(AY++U.M))) [] hM_6 rfl (by simp[Value.single]) λ U7 hI_7 ht_7 hM_7=>?_⟩
   have hd:=fin (.obj fb (.cells [.bool true].toArray 4 (0,0))::.obj bb (.cells [.slice la (ci::q).length lc].toArray 70 (0,0))::A) (AY++U.M) U7 (ht_7.trans ht_6) (λ x o hx=>by rw[hI_7,hI_6];exact hx) (by rw[hM_7];simp) (by
    unfold spC;rw[hnew];show SpM fb bb (some (if Qcp (ci::q) y<0 then ci::q else y)) _;rw[if_pos hlt];exact⟨la,_,lc,A,hA,λ x hx=>by cases hx;rfl,rfl⟩)
   refine⟨rfl,Qj5,?_⟩;refine cast (congrArg (λ a=>Qwc Q8 93 a _ _) (Zm6 _ (.t 6) (.pointer (some ⟨lm,0,none⟩)) rfl).symm) ?_;exact hd.mono λ U' hq=>by(conv=>whnf);exact hq
  .have hlt:¬Qcp (ci::q) y<0:=by simpa using hc
   have hd:=fin (.obj fb (.cells [.bool true].toArray 4 (0,0))::.obj bb (.cells [.slice ya y.length yc].toArray 70 (0,0))::AY) (A++U.M) U5 rfl (λ _ _ h=>h) (by rw[hM_5];simp) (by
    unfold spC;rw[hnew];show SpM fb bb (some (if Qcp (ci::q) y<0 then ci::q else y)) _;rw[if_neg hlt];exact⟨ya,_,yc,AY,hAY,λ x hx=>by cases hx;rfl,rfl⟩)
   refine⟨rfl,Qj5,?_⟩;refine cast (congrArg (λ a=>Qwc Q8 93 a _ _) (Zm6 _ (.t 6) (.pointer (some ⟨lm,0,none⟩)) rfl).symm) ?_;exact hd.mono λ U' hq=>by(conv=>whnf);exact hq
end Go.Proofs
namespace Go.TM
variable{T:Type}{P:Program}{S:Sys P T}{U:Qa T}
def Q5.code{g:FuncId}{N:Nat}{cc:C}{rl:List RV}(k:Q5 P g N cc rl)(hm:P.follows .mixedOrders=true){args:List Value}(hn:args.length<=N){U:Qa T}{n:Zp T}{x:Nat->Zp T}{r:Zp T}
  (h:wpC S g none cc n x r (fm args) [] U):∃fd:Func,P.funcs[g]?=some fd/\fd.body=some (fd.body.getD .skip)/\fd.ntmps=N/\Zu S g none (fd.body.getD .skip) (Qxn N n x r) { tmps:=args.toArray++Array.replicate (fd.ntmps-args.toArray.size) undef,defers:=[] } U:=by
 obtain⟨fd,mu,dets,hf,hb,hc,rfl,hr,-⟩:=k.ok;refine⟨fd,hf,hb,rfl,?_⟩
 have hfr:FR fd.ntmps { tmps:=args.toArray++Array.replicate (fd.ntmps-args.toArray.size) undef,defers:=[] } (fm args) []:=by
  refine⟨rfl,by simp;omega,λ t=>?_⟩;simp only[fm,Array.getD_eq_getD_getElem?,getD_eq_getElem?_getD,Array.getElem?_append,size_toArray,getElem?_toArray];split
  .rfl
  .rename_i hlt;rw[getElem?_eq_none (by omega),Array.getElem?_replicate];split <;> rfl
 subst hc;exact Qc9 hm _ hfr h
def Qx.drop{a:Option Addr}{cap n:Nat}{α:Type}{l:List α}{R:α->List Value->Prop}(h:Qx U a l.length n l R)(hc:l.length<=cap){j:Nat}(hj:j<=l.length):Qx U (if cap=j then a else a.map (·.add (j*n))) (l.length-j) n (l.drop j) R:=by
 refine⟨by simp,λ i x hx=>?_⟩;rw[getElem?_drop]at hx;have hlt:=(List.getElem?_eq_some_iff.1 hx).1;obtain⟨ad,vs,e,hsp,hR,hl,hr⟩:=h.2 (j+i) x hx;rw[if_neg (by omega)];refine⟨ad.add (j*n),vs,by rw[e];rfl,by obtain⟨b1,o1,s1⟩:=ad;cases hsp;rw[Qo],hR,hl,?_⟩;rw[show(ad.add (j*n)).add (i*n)=ad.add ((j+i)*n) by rw[Zpq ad hsp,Nat.add_mul]];exact hr
end Go.TM
namespace Go.Proofs
open Go.TM
attribute [local irreducible] Qb Zh We
section
variable(g bcan bm bbk brt bwt lm fb bb:Nat)(i:Int)(T:Array Value)(todo:List Go.Item)
def Qqg:List Value:=[.pointer (some ⟨g,0,none⟩),.pointer (some ⟨bcan,0,none⟩),.pointer (some ⟨bm,0,none⟩),.pointer (some ⟨bbk,0,none⟩),.pointer (some ⟨brt,0,none⟩),.pointer (some ⟨bwt,0,none⟩),.pointer (some ⟨lm,0,none⟩),.pointer (some ⟨fb,0,none⟩),.pointer (some ⟨bb,0,none⟩)]
def Qwb:List Value:=.int .i64 i::Qqg g bcan bm bbk brt bwt lm fb bb
def wkD:Deferred:={ target:=.fn (.func 86) (Qqg g bcan bm bbk brt bwt lm fb bb).toArray,args:=#[.int .i64 i] }
def wkB:Frame:={ (default:Frame)with fn:=86,kind:=.deferred }
def Qy8:Deferred:={ target:=.fn (.func 87) #[],args:=#[]++#[.pointer (some ⟨g,0,none⟩)] }
def Zij:Qm prog 175 false 1 (Qon prog (wkD g bcan bm bbk brt bwt lm fb bb i))=some []:=by kernel_rfl
def Zik:Qj prog 175 false 1 (Qon prog (wkD g bcan bm bbk brt bwt lm fb bb i))=R wkB { tmps:=(Qwb g bcan bm bbk brt bwt lm fb bb i).toArray++Array.replicate (Tryz.f86.ntmps-(Qwb g bcan bm bbk brt bwt lm fb bb i).toArray.size) undef,defers:=[] } [.code (Tryz.f86.body.getD .skip)] [Qdd]:=by kernel_rfl
def Zih:Qm prog 175 false 1 (Rf { fr wkB ⟨T,[Qy8 g]⟩ todo with mode:=.returning } [Qdd])=some []:=by kernel_rfl
def Zii:Qj prog 175 false 1 (Rf { fr wkB ⟨T,[Qy8 g]⟩ todo with mode:=.returning } [Qdd])=Qr4 g T todo:=by kernel_rfl
end
def Zdb(g:Nat)(D:TM.Spec)(T:Array Value)(todo:List Go.Item){U:Qa Tk}{mu:Option MuT}(ht:U.tok=⟨0,.wrk g D,mu⟩)(hmu:mu=none\/∃x s lo,mu=some (.lok x s .fin lo))(hD:D U.M){Stop:Stp Tk}:J Q8 Stop false (Rf { fr wkB ⟨T,[Qy8 g]⟩ todo with mode:=.returning } [Qdd]) U:=by
 refine J.calm0 (Zih g T todo) ?_;rw[Zii];refine J.calm (b:=g) (by rw[ht];rfl) (Qwl g T todo) Q4 ?_;show J _ Stop false (Qkq g T todo) U;exact .syn (Syn.lay (Qn (SE.of_info (g:=Qkq g T todo) (Qjh g T todo))) ht hmu hD Qg (W8 (Qjh g T todo) rfl) (Q4v g T todo))
structure Zr7(b:Bk)(r:Nat)(w:Int)(m i:Nat)(mt:Option MuT)(lm fb bb:Nat)(Lf Lt:Option (List (Int×Int))):Prop where
 first:∀ci,b.cans[i]?=some ci->∀k q,(TM.parts (b.cans.drop (i+1)) m)[k]?=some q->(∀q'∈(TM.parts (b.cans.drop (i+1)) m).take k,b.good r w (ci::q')=false)->b.good r w (ci::q)=true->∃s lo,mt=some (.lok ⟨lm,168,spC fb bb Lf Lt⟩ s .idle lo)/\(if s then Lt else Lf)=some (ci::q)
 none:∀ci,b.cans[i]?=some ci->(∀q∈TM.parts (b.cans.drop (i+1)) m,b.good r w (ci::q)=false)->mt=none
def Qw8{U:Qa Tk}(h:BH)(b:Bk)(hok:b.Ok)(hnd:b.cans.Nodup)(r:Nat)(hr:r<b.rs.length)(w:Int)(i:Nat){bcan bm bbk brt bwt lm fb bb g:Nat}(hi:i<b.cans.length)
  (he:∀(U':Qa Tk)bfst,(∀x o,U.I x=some o->U'.I x=some o)->U'.tok=U.tok->Zd U' bfst #[.int .i64 i]->TrE U' h b r w i bcan bfst bbk brt bwt) (hcl:b.cans.length<=900)
  (Lf Lt:Option (List (Int×Int))) (h1000:∀x,Lf=some x\/Lt=some x->x.length<=1000) (hsym:∀x y,Lf=some x->Lt=some y->(if Qcp y x<0 then y else x)=(if Qcp x y<0 then x else y))
  (m:Nat) (hm:m<=5) (hbm:Zd U bm #[.int .i64 (m+1:Nat)]) (mt:Option MuT) (D:TM.Spec) (htok:U.tok=⟨0,.wrk g D,mt⟩) (hw:Zr7 b r w m i mt lm fb bb Lf Lt) {K:List Deferred->Qa Tk->Prop}
  (hK:∀U':Qa Tk,(∃mu,U'.tok=⟨0,.wrk g D,mu⟩/\(mu=none\/∃x s lo,mu=some (.lok x s .fin lo)))->K [Qy8 g] U') :
  wpC Q8 86 none Q2z (λ _ ds U=>K ds U) (λ _ _ _ _=>False) (λ _ _ _=>False) (fm (Qwb g bcan bm bbk brt bwt lm fb bb i)) [] U:=by
 obtain⟨ci,hci⟩:∃ci,b.cans[i]?=some ci:=⟨_,getElem?_eq_getElem hi⟩
 conv=>whnf
 intro b10 U1 h_1 hb10;have hb10:Zd U1 b10 #[.int .i64 i]:=hb10;have he1:=he U1 b10 h_1.imm h_1.tok hb10;have hbm1:=hbm.le h_1;obtain⟨ca,cc,hbc,hcr,hcc⟩:=he1.can;have hin1:Zm ((i:Int)+1):=by unfold Zm;omega
 have hin2:Zm (((m+1:Nat):Int)-1):=by unfold Zm;omega
 have hm1:((m+1:Nat):Int)-1=(m:Int):=by omega
 have hlen:(b.cans.drop (i+1)).length=b.cans.length-(i+1):=by simp
 have hrows:=Qx.drop (cap:=cc) hcr hcc (j:=i+1) (by omega);have htk:=Qw5 (U₀:=U1) h b hok hnd r hr w i (bcan:=bcan) (bfst:=b10) (bbk:=bbk) (brt:=brt) (bwt:=bwt) (lm:=lm) (fb:=fb) (bb:=bb) (g:=g) (D:=D) hci he1 Lf Lt h1000 hsym m hm mt (h_1.tok.trans htok) (hw.first ci hci);have hee:∀f:Fm,f 1=.pointer (some ⟨g,0,none⟩)->(#[]++Array.map (Zl f) #[Operand.tmp 1]:Array Value)=#[]++#[.pointer (some ⟨g,0,none⟩)]:=λ f hf=>by simp[Zl,hf]
 refine⟨rfl,_,hbc.sees3 (o:=0) rfl,_,hb10.sees3 (o:=0) rfl,hin1,i+1,b.cans.length,⟨by omega,rfl,by omega,hcc⟩,_,hbm1.sees3 (o:=0) rfl,hin2,?_⟩
 conv=>whnf
 intro U2 h_2 _
 have hea:=Qwr (S:=Q8) (U:=U2) (b.cans.drop (i+1)) _ (cc-(i+1)) (by rw[hlen];exact hrows.lg h_2.lg.frz2 λ _ _ h=>h) (by omega) m (by omega) 89 #[] _ Q35.any (I:=λ k U'=>U'.tok=⟨0,.wrk g D,mt⟩/\∀q∈(TM.parts (b.cans.drop (i+1)) m).take k,b.good r w (ci::q)=false) (E:=λ U'=>∃s lo,U'.tok=⟨0,.wrk g D,some (.lok ⟨lm,168,spC fb bb Lf Lt⟩ s .fin lo)⟩)
  (λ k U1 U2 hle⟨h1,h2⟩=>⟨hle.tok.trans h1,h2⟩) (λ k p a cap U X Mc hp h0=>htk k p a cap U X Mc hp (h_2.lg.frz2.trans h0)) ⟨h_2.tok.trans (h_1.tok.trans htok),by simp⟩
 rw[hlen]at hea;rw[hm1];refine⟨Q34.any,hea.mono ?_⟩;rintro v U3 (⟨rfl,-,ht,hno⟩|⟨rfl,⟨s,lo,ht⟩,-⟩) -
 .have hmt:=hw.none ci hci λ q hq=>hno q (by rw[take_length];exact hq)
  repeat refine⟨rfl,?_⟩
  conv=>whnf
  exact cast (congrArg (λ a=>K [{ target:=.fn (.func 87) #[],args:=a }] U3) (hee _ rfl).symm) (hK U3 ⟨mt,ht,.inl hmt⟩)
 .repeat refine⟨rfl,?_⟩
  conv=>whnf
  exact cast (congrArg (λ a=>K [{ target:=.fn (.func 87) #[],args:=a }] U3) (hee _ rfl).symm) (hK U3 ⟨_,ht,.inr ⟨_,_,_,rfl⟩⟩)
def Qw7{U:Qa Tk}(h:BH)(b:Bk)(hok:b.Ok)(hnd:b.cans.Nodup)(r:Nat)(hr:r<b.rs.length)(w:Int)(i:Nat){bcan bm bbk brt bwt lm fb bb g:Nat}(hi:i<b.cans.length)
  (he:∀(U':Qa Tk)bfst,(∀x o,U.I x=some o->U'.I x=some o)->U'.tok=U.tok->Zd U' bfst #[.int .i64 i]->TrE U' h b r w i bcan bfst bbk brt bwt) (hcl:b.cans.length<=900)
  (Lf Lt:Option (List (Int×Int))) (h1000:∀x,Lf=some x\/Lt=some x->x.length<=1000) (hsym:∀x y,Lf=some x->Lt=some y->(if Qcp y x<0 then y else x)=(if Qcp x y<0 then x else y))
  (m:Nat) (hm:m<=5) (hbm:Zd U bm #[.int .i64 (m+1:Nat)]) (mt:Option MuT) (htok:U.tok=⟨0,.wrk g λ _=>True,mt⟩) (hw:Zr7 b r w m i mt lm fb bb Lf Lt) (Stop:Stp Tk) :
  J Q8 Stop false (Qon prog (wkD g bcan bm bbk brt bwt lm fb bb i)) U:=by
 refine J.calm0 (Zij ..) ?_;rw[Zik]
 obtain⟨fd,hfd,hbd,hN,hcode⟩:=Zmf.code (S:=Q8) Qd (args:=Qwb g bcan bm bbk brt bwt lm fb bb i) (by simp[Qwb,Qqg])
  (Qw8 (K:=λ ds U'=>ds=[Qy8 g]/\∃mu,U'.tok=⟨0,.wrk g λ _=>True,mu⟩/\(mu=none\/∃x s lo,mu=some (.lok x s .fin lo))) h b hok hnd r hr w i hi he hcl Lf Lt h1000 hsym m hm hbm mt _ htok hw λ U' h=>⟨rfl,h⟩)
 have:fd=Tryz.f86:=Option.some.inj (hfd.symm.trans Tryz.func86);subst this;refine J.body (fn:=86) (Q:=_) ⟨rfl,rfl,by simp[wkB],by simp⟩ hcode λ e' a' U' hq=>?_;obtain⟨f',ds',hf',hq⟩:=hq;cases e' with
 |normal=>
  obtain⟨rfl,mu,h2,h3⟩:=hq;refine⟨.inl rfl,λ todo=>?_⟩;obtain⟨T,dd⟩:=a';have hdd:dd=[Qy8 g]:=hf'.ds;subst hdd;exact Zdb g _ T todo h2 h3 trivial
 |exit i=>exact hq.elim
 |ret=>exact hq.elim
end Go.Proofs
namespace Go.TM
variable{T:Type}{P:Program}{S:Sys P T}{U U':Qa T}
def Z3.mem{a:Option Addr}{len:Nat}{l:List Int}(h:Z3 U a len l)(hI:∀x o,U.I x=some o->U'.I x=some o)(hM:∀r∈U.M,r∈U'.M):Z3 U' a len l:=
 ⟨h.1,λ i x hx=>let ⟨ad,e,s,hs⟩:=h.2 i x hx;⟨ad,e,s,hs.mem hI hM⟩⟩
def Qx.mem2{a:Option Addr}{len n:Nat}{α:Type}{l:List α}{R R':α->List Value->Prop}(h:Qx U a len n l R)(hI:∀x o,U.I x=some o->U'.I x=some o)(hM:∀r∈U.M,r∈U'.M)(hR:∀x vs,R x vs->R' x vs):Qx U' a len n l R':=
 ⟨h.1,λ i x hx=>let ⟨ad,vs,e,s,r,hl,hr⟩:=h.2 i x hx;⟨ad,vs,e,s,hR _ _ r,hl,hr.mem hI hM⟩⟩
def Wj.mem{a:Option Addr}{len:Nat}{ls:List (List Int)}(h:Wj U a len ls)(hI:∀x o,U.I x=some o->U'.I x=some o)(hM:∀r∈U.M,r∈U'.M):Wj U' a len ls:=
 Qx.mem2 h hI hM λ _ _⟨a',len',cap',e,h1,h2⟩=>⟨a',len',cap',e,h1.mem hI hM,h2⟩
def Zt.mem{h:BH}{b:Bk}(k:Zt U h b)(hI:∀x o,U.I x=some o->U'.I x=some o)(hM:∀r∈U.M,r∈U'.M):Zt U' h b:=
 ⟨k.rs.mem2 hI hM λ _ _ h=>h,k.cs.mem2 hI hM λ _ _⟨ga,gl,gc,aa,al,ac,e,h1,h2,h3,h4⟩=>⟨ga,gl,gc,aa,al,ac,e,h1.mem hI hM,h2,h3.mem hI hM,h4⟩,k.rl,k.cl,k.rn,k.cn⟩
end Go.TM
namespace Go.Proofs
open Go.TM
attribute [local irreducible] Qb Zh We
def Qha{T:Type}(U:Qa T)(v:Value)(l:List (Int×Int)):Prop:=∃a c,v=.slice a l.length c/\Qx U a l.length 2 l (λ x vs=>vs=encII x)
structure Qrm(b:Bk)(r:Nat)(w:Int)(m:Nat)(sd:Nat->Option Bool)(Lf Lt:Option (List (Int×Int))):Prop where
 n:b.cans.Nodup
 pos:0<b.cans.length
 six:b.cans.length<=6
 m5:m<=5
 len:∀x,Lf=some x\/Lt=some x->x.length<=1000
 sym:∀x y,Lf=some x->Lt=some y->(if Qcp y x<0 then y else x)=(if Qcp x y<0 then x else y)
 no:∀i ci,b.cans[i]?=some ci->(TM.parts (b.cans.drop (i+1)) m).find? (λ q=>b.good r w (ci::q))=none->sd i=none
 yes:∀i ci q,b.cans[i]?=some ci->(TM.parts (b.cans.drop (i+1)) m).find? (λ q=>b.good r w (ci::q))=some q->∃s,sd i=some s/\(if s then Lt else Lf)=some (ci::q)
 one:∀i j s,sd i=some s->sd j=some s->i=j
 out:∀s,((range b.cans.length).any λ i=>sd i==some s)=false->(if s then Lt else Lf)=none
def usd(sd:Nat->Option Bool)(i:Nat)(s:Bool):Bool:=(range i).any λ j=>sd j==some s
def Zot{sd:Nat->Option Bool}{i:Nat}(h:sd i=none):usd sd (i+1)=usd sd i:=by
 funext s;unfold usd;rw[range_succ,any_append];simp[h]
def Zou{sd:Nat->Option Bool}{i:Nat}{s:Bool}(h:sd i=some s)(h1:∀i j s,sd i=some s->sd j=some s->i=j):usd sd i s=false/\usd sd (i+1)=Qd2 (usd sd i) s true:=by
 have h2:usd sd i s=false:=by
  unfold usd;rw[any_eq_false];intro j hj e;rw[mem_range]at hj;have:=h1 j i s (by simpa using e) h;omega
 refine⟨h2,?_⟩;funext s';unfold usd Qd2;rw[range_succ,any_append];by_cases e:s'=s
 .subst e;simp[h]
 .rw[if_neg e];simp[h,Ne.symm e]
abbrev muX(lm fb bb:Nat)(Lf Lt:Option (List (Int×Int))):Mux:=⟨lm,168,spC fb bb Lf Lt⟩
abbrev Qju:TM.Spec:=λ _=>True
def Zi4{α:Type}{p:α->Bool}{l:List α}(h:∀q∈l,p q=false):l.find? p=none:=by
 rw[find?_eq_none];intro q hq;rw[h q hq];simp
def Zp7{α:Type}{p:α->Bool}{l:List α}{k:Nat}{q:α}(hk:l[k]?=some q)(h:∀q'∈l.take k,p q'=false)(hq:p q=true):l.find? p=some q:=by
 rw[find?_eq_some_iff_getElem];obtain⟨hk,hke⟩:=List.getElem?_eq_some_iff.1 hk;refine⟨hq,k,hk,hke,λ j hj=>?_⟩;have:=h l[j] (mem_take_iff_getElem.2 ⟨j,by omega,rfl⟩);simp[this]
set_option maxHeartbeats 2000000 in
def Qgs{U:Qa Tk}(htok:U.tok=⟨0,.out,none⟩)(h:BH)(b:Bk)(hb:Zt U.frz h b)(hok:b.Ok)(r:Nat)(hr:r<b.rs.length)(w:Int)(m:Nat){sd:Nat->Option Bool}{Lf Lt:Option (List (Int×Int))}(hC:Qrm b r w m sd Lf Lt) :
  Qb Q8 59 #[h.v,.int .i64 r,.int .i64 (m+1:Nat),.int .i64 w] (λ v U'=>(∃v1,v=.tuple #[v1,.bool (bst Lf Lt).isSome]/\Qha U'.frz v1 ((bst Lf Lt).getD []))/\U.le U') U:=by
 have hnc:=hok.nc
 have main:Qb Q8 59 #[h.v,.int .i64 r,.int .i64 (m+1:Nat),.int .i64 w] (λ v U'=>∃a l c A Z,v=.tuple #[.slice a l c,.bool (bst Lf Lt).isSome]/\Jx 78 2 (.slice a l c) (((bst Lf Lt).getD []).flatMap encII) A/\U'.M.Perm (A++(Z++U.M))/\(∀x o,U.I x=some o->U'.I x=some o)/\U'.tok=U.tok) U:=by
  refine Qb.of (args:=[_,_,_,_]) Qsr Qd (by simp) ?_
  conv=>whnf
  intro b4 U1 h_1 hb4;have hb4:Zd U1 b4 #[.slice h.ra h.rl h.rc,.slice h.ca h.cl h.cc]:=hb4
  conv=>whnf
  intro b5 U2 h_2 hb5;have hb5:Zd U2 b5 #[.int .i64 r]:=hb5
  conv=>whnf
  intro b6 U3 h_3 hb6;have hb6:Zd U3 b6 #[.int .i64 (m+1:Nat)]:=hb6
  conv=>whnf
  intro b7 U4 h_4 hb7;have hb7:Zd U4 b7 #[.int .i64 w]:=hb7;have hle4:=((h_1.trans h_2).trans h_3).trans h_4;have hb4:=hb4.le ((h_2.trans h_3).trans h_4);have hb5:=hb5.le (h_3.trans h_4);have hb6:=hb6.le h_4;refine⟨_,⟨rfl,hb4.reads (λ k v hv=>by simpa using hv)⟩,?_⟩;refine⟨Q33.any,(Q20 h b (hb.lg hle4.lg.frz2) hnc).mono ?_⟩;rintro _ U5⟨⟨ca,cc,rfl,hcr,hcc,-⟩,h_5⟩-
  conv=>whnf
  intro b10 hf10;refine⟨_,.refl _,rfl,Zs (vs:=[.slice ca b.cans.length cc]) hf10 rfl (by simp[Value.single]) λ U6 h_6 hb10=>?_⟩;have hb10:Zd U6 b10 #[.slice ca b.cans.length cc]:=hb10;have hle46:=h_5.trans h_6;have hle6:=hle4.trans hle46;have hb4:=hb4.le hle46;have hb5:=hb5.le hle46;have hb6:=hb6.le hle46;have hb7:=hb7.le hle46;have hbv:Zt U6.frz h b:=hb.lg hle6.lg.frz2;have hcr:Qx U6.frz ca b.cans.length 2 b.cans (λ x vs=>vs=encII x):=hcr.lg h_6.lg.frz2 λ _ _ h=>h
  conv=>whnf
  intro lm hflm;refine⟨_,.refl _,?_⟩
  conv=>whnf
  intro wb hfwb;refine⟨_,.refl _,?_⟩
  conv=>whnf
  intro bb hfbb;refine⟨_,.refl _,?_⟩
  conv=>whnf
  intro fb hffb;refine⟨_,.refl _,rfl,Qgn (vs:=[.bool false]) rfl (by simp[Value.single]) ?_⟩
  have hM7:((((U6.put lm (.cells #[.int .i32 0,.int .u32 0] 168)).put wb (.cells #[.int .u64 0,.int .u32 0] 175)).put bb (.cells #[.slice none 0 0] 70)).put fb (.cells [.bool false].toArray 4)).M=[.obj fb (.cells [.bool false].toArray 4 (0,0)),.obj bb (.cells [.slice none 0 0].toArray 70 (0,0))]++.obj wb (.cells #[Q1 0 0,Qp 0] 175 (0,0))::(.obj lm (.cells #[Ze 0,Qp 0] 168 (0,0))::U.M):=by
   show _::_::_::_::U6.M=_;rw[hle6.own];rfl
  have hI7:∀x o,U6.I x=some o->((((U6.put lm (.cells #[.int .i32 0,.int .u32 0] 168)).put wb (.cells #[.int .u64 0,.int .u32 0] 175)).put bb (.cells #[.slice none 0 0] 70)).put fb (.cells [.bool false].toArray 4)).I x=some o:=λ _ _ h=>h;have ht7:((((U6.put lm (.cells #[.int .i32 0,.int .u32 0] 168)).put wb (.cells #[.int .u64 0,.int .u32 0] 175)).put bb (.cells #[.slice none 0 0] 70)).put fb (.cells [.bool false].toArray 4)).tok=⟨0,.out,none⟩:=hle6.tok.trans htok;generalize((((U6.put lm (.cells #[.int .i32 0,.int .u32 0] 168)).put wb (.cells #[.int .u64 0,.int .u32 0] 175)).put bb (.cells #[.slice none 0 0] 70)).put fb (.cells [.bool false].toArray 4))=U7 at hM7 hI7 ht7 ⊢;clear hflm hfwb hfbb hffb hf10;refine⟨_,(hb10.imI hI7).sees3 (o:=0) rfl,Nat,λ i=>[(12,.pointer (some ⟨wb,0,none⟩)),(13,.pointer (some ⟨bb,0,none⟩)),(14,.pointer (some ⟨fb,0,none⟩)),(15,.func (.func 86) #[] (Qqg wb b10 b6 b4 b5 b7 lm fb bb).toArray),(21,.int .i64 b.cans.length),(22,.int .i64 i)],
   λ i U'=>(∀x o,U7.I x=some o->U'.I x=some o)/\i<=b.cans.length/\((i=0/\U'.tok=⟨0,.out,none⟩/\U'.M=[.obj fb (.cells [.bool false].toArray 4 (0,0)),.obj bb (.cells [.slice none 0 0].toArray 70 (0,0))]++.obj wb (.cells #[Q1 0 0,Qp 0] 175 (0,0))::(.obj lm (.cells #[Ze 0,Qp 0] 168 (0,0))::U.M)) \/
    (0<i/\U'.tok=⟨0,.par wb (replicate i Qju) false .run,some (.par (muX lm fb bb Lf Lt) (usd sd i))⟩/\U'.M=U.M)),λ i=>b.cans.length-i,0,by trivial,⟨λ _ _ h=>h,by omega,.inl ⟨rfl,ht7,hM7⟩⟩,?_⟩
  rintro i f U8⟨hI8,hi,hst⟩;have hin:Zm ((i:Int)+1):=by have:=hC.six;unfold Zm;omega
  have hI68:∀x o,U6.I x=some o->U8.I x=some o:=λ x o hx=>hI8 x o (hI7 x o hx)
  repeat refine⟨rfl,?_⟩
  conv=>whnf
  apply Qe<;>intro hc
  .have hlt:i<b.cans.length:=by simpa using hc
   obtain⟨ci,hci⟩:∃ci,b.cans[i]?=some ci:=⟨_,getElem?_eq_getElem hlt⟩;have h6:=hC.six
   have hadd:Qb Q8 96 #[.pointer (some ⟨wb,0,none⟩),.int .i64 1] (λ v U'=>U'.I=U8.I/\U'.tok=⟨0,.par wb (replicate i Qju) true .run,some (.par (muX lm fb bb Lf Lt) (usd sd i))⟩/\U'.M=U.M) U8:=by
    rcases hst with⟨rfl,htk,hM8⟩|⟨hpos,htk,hM8⟩
    .refine Qb.make (M₁:=[.obj fb (.cells [.bool false].toArray 4 (0,0)),.obj bb (.cells [.slice none 0 0].toArray 70 (0,0))]) (M₂:=.obj lm (.cells #[Ze 0,Qp 0] 168 (0,0))::U.M) htk hM8 ?_;refine Qb.shift (U':=⟨U8.I,.obj lm (.cells #[Ze 0,Qp 0] 168 (0,0))::([.obj fb (.cells [.bool false].toArray 4 (0,0)),.obj bb (.cells [.slice none 0 0].toArray 70 (0,0))]++U.M),⟨0,.par wb [] false .run,none⟩⟩) (Qaa perm_middle) ?_;refine Qb.makeM (x:=muX lm fb bb Lf Lt) (M₁:=[.obj fb (.cells [.bool false].toArray 4 (0,0)),.obj bb (.cells [.slice none 0 0].toArray 70 (0,0))]) (M₂:=U.M) rfl rfl ⟨none,0,0,[],.nil,(λ x hx=>by cases hx),rfl⟩ ?_;exact Qxp (ds:=[]) (by simp) rfl ⟨rfl,rfl,rfl⟩
    .exact Qxp (ds:=replicate i Qju) (by simp;omega) htk ⟨rfl,by show(⟨0,_,U8.tok.mu⟩:Tk)=_;rw[htk],hM8⟩
   refine⟨Q7i,hadd.mono ?_⟩;rintro v U9⟨hI9,ht9,hM9⟩-;have hI69:∀x o,U6.I x=some o->U9.I x=some o:=λ x o hx=>by rw[hI9];exact hI68 x o hx
   conv=>whnf
   intro a ha;rw[Qz5];refine Qy7 ?_;rw[Q27];refine Zsh λ⟨wd,hwd⟩=>?_;have e15:a.eval (.t 15)=.func (.func 86) #[] (Qqg wb b10 b6 b4 b5 b7 lm fb bb).toArray:=ha.get 15;refine Qc1 Q8p (Wp Q4k) (.inl rfl) ?_;unfold OpV;simp only[execOp,Q0g,Qf,Qi,Zet,e15];rw[Q4h];have ha1:=ha.put (some 26) (.func (.func 86) #[] (Qqg wb b10 b6 b4 b5 b7 lm fb bb).toArray) (by intro d hd;cases hd;decide);generalize a.put (some 26) (.func (.func 86) #[] (Qqg wb b10 b6 b4 b5 b7 lm fb bb).toArray)=a1 at ha1 ⊢;have e16:a1.eval (.t 16)=.int .i64 i:=ha1.get 16;refine Qc1 Q8q (Wp Q4l) (.inl rfl) ?_;unfold OpV;simp only[execOp,Q0h,Qf,Qi,Zet,e16];rw[Q4i];have ha2:=ha1.put (some 27) (.int .i64 i) (by intro d hd;cases hd;decide);generalize a1.put (some 27) (.int .i64 i)=a2 at ha2 ⊢;have e26:a2.eval (.t 26)=.func (.func 86) #[] (Qqg wb b10 b6 b4 b5 b7 lm fb bb).toArray:=ha2.get 26
   have e27:(#[]++#[Operand.tmp 27].map a2.eval:Array Value)=#[.int .i64 i]:=by
    have:a2.eval (.t 27)=.int .i64 i:=ha2.get 27;simp[this]
   obtain⟨mu',mc,hmu,hmu',hmc,hmn⟩:∃mu' mc,Zpa (some (.par (muX lm fb bb Lf Lt) (usd sd i))) mu' mc/\mu'=some (.par (muX lm fb bb Lf Lt) (usd sd (i+1)))/\(∀s,sd i=some s->mc=some (.lok (muX lm fb bb Lf Lt) s .idle 0))/\(sd i=none->mc=none):=by
    cases hs:sd i with
    |none=>exact⟨_,none,.inl ⟨rfl,rfl⟩,by rw[Zot hs],λ s h=>by(cases h),λ _=>rfl⟩
    |some s=>
     obtain⟨u1,u2⟩:=Zou hs hC.one;exact⟨_,some (.lok (muX lm fb bb Lf Lt) s .idle 0),.inr ⟨_,_,s,rfl,u1,rfl,rfl⟩,by rw[u2],λ s' h=>by cases h;rfl,λ h=>by cases h⟩
   subst hmu'
   have hwk:Zr7 b r w m i mc lm fb bb Lf Lt:=by
    refine⟨λ ci hci k q hk hno hg=>?_,λ ci hci hno=>hmn (hC.no i ci hci (Zi4 hno))⟩;obtain⟨s,hs,hL⟩:=hC.yes i ci q hci (Zp7 hk hno hg);exact⟨s,0,hmc s hs,hL⟩
   refine Zsi (D:=Qju) (ds:=replicate i Qju) (Up:=⟨U9.I,U9.M,⟨0,.par wb (replicate (i+1) Qju) false .run,some (.par (muX lm fb bb Lf Lt) (usd sd (i+1)))⟩⟩) (Uc:=⟨U9.I,[],⟨0,.wrk wb Qju,mc⟩⟩) Q8r (Wp Q4m) Q0i e26 ht9 (Qzc hwd (M₁:=[]) (M₂:=U9.M) (Perm.refl _)) rfl rfl hmu (λ Stop=>?_) ?_
   .rw[e27];have hwkj:=Qw7 (U:=⟨U9.I,[],⟨0,.wrk wb Qju,mc⟩⟩) h b hok hC.n r hr w i (bcan:=b10) (bm:=b6) (bbk:=b4) (brt:=b5) (bwt:=b7) (lm:=lm) (fb:=fb) (bb:=bb) (g:=wb) hlt (λ U' bfst hI ht hbf=>?_) (by omega) Lf Lt hC.len hC.sym m hC.m5 (hb6.imI hI69) mc rfl hwk Stop
    .exact hwkj
    .have hI6':∀x o,U6.I x=some o->U'.I x=some o:=λ x o hx=>hI x o (hI69 x o hx);exact⟨⟨ca,cc,hb10.imI hI6',hcr.mem hI6' (λ r hr=>by cases hr),hcc⟩,hbf,hb4.imI hI6',hbv.mem hI6' (λ r hr=>by cases hr),hb5.imI hI6',hb7.imI hI6'⟩
   .refine Zoa ?_;rw[Q4j];refine⟨by rw[Act.put,ha2.size,ha.size],_,ha2.get,?_⟩;refine⟨hin,by simpa[Act.put]using ha2.ds,i+1,by trivial,⟨λ x o hx=>by show U9.I x=_;rw[hI9];exact hI8 x o hx,by omega,.inr ⟨by omega,rfl,hM9⟩⟩,by show _-_<_-_;omega⟩
  .have hge:i=b.cans.length:=by simp at hc;omega
   subst hge
   obtain⟨-,htk,hM8⟩:0<b.cans.length/\U8.tok=⟨0,.par wb (replicate b.cans.length Qju) false .run,some (.par (muX lm fb bb Lf Lt) (usd sd b.cans.length))⟩/\U8.M=U.M:=by
    rcases hst with⟨h0,_⟩|hst
    .have:=hC.pos;omega
    .exact hst
   have hu:∀s,(if usd sd b.cans.length s then(if s then Lt else Lf)else none)=(if s then Lt else Lf):=λ s=>by
    cases hus:usd sd b.cans.length s with
    |true=>rfl
    |false=>rw[hC.out s hus];rfl
   have hwait:Qb Q8 97 #[.pointer (some ⟨wb,0,none⟩)] (λ v U'=>v=.tuple #[]/\U'.I=U8.I/\U'.tok=⟨0,.out,none⟩/\∃M',SpM fb bb (bst Lf Lt) M'/\U'.M=M'++U.M) U8:=by
    refine Qb.post (R:=λ v U'=>v=.tuple #[]/\U'.I=U8.I/\U'.tok=⟨0,.out,none⟩/\∃Ms M',SpM fb bb (bst Lf Lt) M'/\U'.M=(U.M++Ms)++M') (Zc9 (ds:=replicate b.cans.length Qju) (by simp;exact hC.six) htk λ Ms M' hMs hsp=>⟨rfl,rfl,rfl,Ms.flatten,M',?_,by rw[hM8]⟩) λ v U'⟨hv,hI,ht,Ms,M',hsp,hM'⟩=>?_
    .have h1:=hu false;have h2:=hu true;simp only[Bool.false_eq_true,if_false,if_true]at h1 h2;have:spC fb bb Lf Lt (usd sd b.cans.length false) (usd sd b.cans.length true) M':=hsp;unfold spC at this
     rwa [h1,h2]at this
    .refine⟨{ U' with M:=M'++U.M },Qzm ⟨Ms,?_⟩,hv,hI,ht,M',hsp,rfl⟩;rw[hM',append_assoc,append_assoc];refine(perm_append_comm (l₁:=U.M) (l₂:=Ms++M')).trans ?_;rw[append_assoc];refine(perm_append_comm (l₁:=Ms) (l₂:=M'++U.M)).trans ?_;rw[append_assoc]
   refine⟨Q7j,hwait.mono ?_⟩;rintro _ U9⟨rfl,hI9,ht9,M',⟨a,l,c,A,hA,-,rfl⟩,hM9⟩-;refine⟨_,J2 (b:=bb) (e:=70) (vs:=[.slice a l c]) (by rw[hM9];simp) 0 _ rfl,?_⟩;refine⟨_,J2 (b:=fb) (e:=4) (vs:=[.bool (bst Lf Lt).isSome]) (by rw[hM9];simp) 0 _ rfl,?_⟩
   conv=>whnf
   intro Ua hla _;refine⟨a,l,c,A,[.obj fb (.cells [.bool (bst Lf Lt).isSome].toArray 4 (0,0)),.obj bb (.cells [.slice a l c].toArray 70 (0,0))],rfl,hA,?_,λ x o hx=>hla.imm x o (by rw[hI9];exact hI68 x o (hle6.imm x o hx)),by rw[hla.tok,ht9,htok]⟩;rw[hla.own,hM9];refine Perm.trans ?_ (perm_append_comm_assoc [.obj fb (.cells [.bool (bst Lf Lt).isSome].toArray 4 (0,0)),.obj bb (.cells [.slice a l c].toArray 70 (0,0))] A U.M);exact Perm.refl _
 refine main.okv λ v U' hw⟨a,l,c,A,Z,hv,hA,hM,hI,ht⟩=>?_;obtain⟨U1,k1,k2,k3,a',len',cap',e,hl,hsrc,hsp⟩:=hA.freeze (Qrg hw) hM;cases e;have hlen:((bst Lf Lt).getD []).length=l:=by have e:=(Q0 (f:=encII) (n:=2) (λ _=>rfl) ((bst Lf Lt).getD [])).symm.trans hl;omega
 subst hlen;exact⟨{ U1 with M:=U.M },k1.trans (Z4 (by rw[k2];exact sublist_append_right ..)),⟨_,hv,a,c,rfl,Qb1 (enc:=encII) (n:=2) (λ _=>rfl) hsrc hsp (by decide)⟩,⟨λ x o hx=>k3.imm x o (hI x o hx),rfl,k3.tok.trans ht⟩⟩
end Go.Proofs
namespace Go.TM
def Qdk{α:Type}(F:Nat->Option α):Nat->Nat->Option α
 |_,0=>none
 |m,n+1=>match F m with
  |some x=>some x
  |none=>Qdk F (m+1) n
def Qqb{α:Type}(F:Nat->Option α)(m n:Nat):Qdk F m (n+1)=match F m with
  |some x=>some x
  |none=>Qdk F (m+1) n:=rfl
def Qih(stands:Bool):Int:=if stands then 1 else 2
def Bk.staF(b:Bk)(r:Int)(stands:Bool)(F:Nat->Option (List (Int×Int))):Option (List (Int×Int)):=
 if b.askF r=0 then(if b.fatR r.toNat=Qih stands then some []else if b.fatR r.toNat=Qih (!stands)then none else Qdk F 0 (b.cs.length-1))else none
end Go.TM
namespace Go.Proofs
open Go.TM
attribute [local irreducible] Qb Zh We
def Qha.nil{T:Type}{U:Qa T}:Qha U (.slice none 0 0) []:=⟨none,0,rfl,rfl,λ i x hx=>by simp at hx⟩
def Qha.lg{T:Type}{U U':Qa T}{v:Value}{l:List (Int×Int)}(h:Qha U v l)(k:U.lg U'):Qha U' v l:=let ⟨a,c,e,h⟩:=h;⟨a,c,e,h.lg k λ _ _ h=>h⟩
set_option maxHeartbeats 1000000 in
def Qjf{U:Qa Tk}(htok:U.tok=⟨0,.out,none⟩)(h:BH)(b:Bk)(hb:Zt U.frz h b)(hk:Chk U)(r:Int)(stands:Bool)(F:Nat->Option (List (Int×Int)))
  (hC:b.askF r=0->b.fatR r.toNat≠Qih stands->b.fatR r.toNat≠Qih (!stands)->∀m,m+1<b.cs.length->(∀m',m'<m->F m'=none)->∃sd Lf Lt,Qrm b r.toNat (Qih stands) m sd Lf Lt/\bst Lf Lt=F m) :
  Qb Q8 22 #[h.v,.int .i64 r,.bool stands] (λ v U'=>(∃v1,v=.tuple #[v1,.bool (b.staF r stands F).isSome,.int .i64 (b.askF r)]/\Qha U'.frz v1 ((b.staF r stands F).getD []))/\U.le U') U:=by
 refine Qb.grown (R:=λ v U'=>∃v1,v=.tuple #[v1,.bool (b.staF r stands F).isSome,.int .i64 (b.askF r)]/\Qha U' v1 ((b.staF r stands F).getD [])) (λ v U1 U2 hl⟨v1,e,h1⟩=>⟨v1,e,h1.lg hl⟩) (Qb.of (args:=[_,_,_]) Qsf Qd (by simp) ?_);have hcl:=hb.cs.1
 repeat refine⟨rfl,?_⟩
 conv=>whnf
 intro B U1 h_1 hB;have hB:Zd U1 B #[.slice h.ra h.rl h.rc,.slice h.ca h.cl h.cc]:=hB;refine⟨_,⟨rfl,hB.reads (λ k v hv=>by simpa using hv)⟩,?_⟩;refine⟨Qhn.any,(Qb5 h b (hb.lg h_1.lg.frz2) (hk.lg h_1.lg) r).go λ _=>?_⟩
 conv=>whnf
 intro b9 hf9;refine⟨_,.refl _,?_⟩;by_cases hF:b.askF r=0
 .obtain⟨hok,hr0,hr1⟩:=Bk.askF_ok hF;obtain⟨q,rfl⟩:=Int.eq_ofNat_of_zero_le hr0;have hq:q<b.rs.length:=by unfold Bk.nr at hr1;omega
  have hnc:=hok.nc;have hst:b.staF (q:Int) stands F=(if b.fatR q=Qih stands then some []else if b.fatR q=Qih (!stands)then none else Qdk F 0 (b.cs.length-1)):=by unfold Bk.staF;rw[if_pos hF,Int.toNat_natCast]
  have hC:=hC hF;rw[Int.toNat_natCast]at hC;rw[if_pos hF,hF,hst];refine⟨rfl,Zs (vs:=[.slice h.ra h.rl h.rc,.slice h.ca h.cl h.cc]) hf9 rfl (by simp[Value.single]) λ U2 h_2 hb9=>?_⟩;have hb9:Zd U2 b9 #[.slice h.ra h.rl h.rc,.slice h.ca h.cl h.cc]:=hb9;have hle_2:=h_1.trans h_2;have hB:=hB.le h_2;have hfate:=Qcx (S:=Q8) (U:=U2) h b (hb.lg hle_2.lg.frz2) hok q hq;cases stands with
  |true=>
   have hw1:Qih true=1:=rfl;have hw2:Qih (!true)=2:=rfl;rw[hw1,hw2]at hC ⊢
   repeat refine⟨rfl,?_⟩
   refine⟨_,⟨rfl,hb9.reads (λ k v hv=>by simpa using hv)⟩,?_⟩;refine⟨Qff.any,hfate.go λ _=>?_⟩
   repeat refine⟨rfl,?_⟩
   conv=>whnf
   apply Qe<;>intro hc
   .have e1:b.fatR q=1:=by simpa using hc
    rw[if_pos e1]
    repeat refine⟨rfl,?_⟩
    conv=>whnf
    exact⟨⟨_,rfl,.nil⟩,hle_2.lg⟩
   have e1:b.fatR q≠1:=by simpa using hc
   rw[if_neg e1]
   repeat refine⟨rfl,?_⟩
   conv=>whnf
   apply Qe<;>intro hc
   .have e2:b.fatR q=2:=by simpa using hc
    rw[if_pos e2]
    repeat refine⟨rfl,?_⟩
    conv=>whnf
    exact⟨⟨_,rfl,.nil⟩,hle_2.lg⟩
   have e2:b.fatR q≠2:=by simpa using hc
   rw[if_neg e2]
   refine⟨Nat,λ m=>[(1,.int .i64 q),(3,.pointer (some ⟨B,0,none⟩)),(9,.pointer (some ⟨b9,0,none⟩)),(10,.int .i64 1),(12,.int .i64 (m+1:Nat))],
    λ m U'=>U2.le U'/\(m=0\/m+1<=b.cs.length)/\(∀m',m'<m->F m'=none)/\Qdk F 0 (b.cs.length-1)=Qdk F m (b.cs.length-1-m),λ m=>b.cs.length-m,0,by trivial,⟨.refl _,.inl rfl,by simp,rfl⟩,?_⟩
   rintro m f U3⟨hle,hm,hno,hinv⟩;have hin:Zm (((m+1:Nat):Int)+1):=by unfold Zm;omega
   have hle3:=hle_2.trans hle;refine⟨_,(hB.le hle).sees3 (o:=1) rfl,?_⟩
   repeat refine⟨rfl,?_⟩
   conv=>whnf
   apply Qe<;>intro hc
   .have hlt:m+1<b.cs.length:=by simp at hc;omega
    obtain⟨sd,Lf,Lt,hD,hbst⟩:=hC e1 e2 m hlt hno;rw[show b.cs.length-1-m=(b.cs.length-1-(m+1))+1 by omega,Qqb]at hinv;refine⟨_,⟨rfl,(hb9.le hle).reads (λ k v hv=>by simpa using hv)⟩,?_⟩;refine⟨Qsr.any,(Qgs (U:=U3) (hle3.tok.trans htok) h b (hb.lg hle3.lg.frz2) hok q hq 1 m hD).mono ?_⟩;rintro _ U4⟨⟨v1,rfl,hv1⟩,h_4⟩-;rw[hbst]at hv1 ⊢;cases hFm:F m with
    |some x=>
     rw[hFm]at hv1 hinv;obtain⟨a1,c1,rfl,hr1⟩:=hv1;rw[hinv]
     repeat refine⟨rfl,?_⟩
     conv=>whnf
     exact⟨⟨_,rfl,⟨a1,c1,rfl,hr1⟩⟩,(hle3.trans h_4).lg⟩
    |none=>
     rw[hFm]at hv1 hinv;obtain⟨a1,c1,rfl,hr1⟩:=hv1
     repeat refine⟨rfl,?_⟩
     refine⟨hin,?_⟩
     conv=>whnf
     exact⟨rfl,m+1,by trivial,⟨hle.trans h_4,.inr (by omega),λ m' hm'=>by
      by_cases e:m'=m
      .rw[e];exact hFm
      .exact hno m' (by omega),hinv⟩,by show _-_<_-_;omega⟩
   .have hge:b.cs.length<=m+1:=by simp at hc;omega
    rw[show b.cs.length-1-m=0 by omega]at hinv;have hinv:Qdk F 0 (b.cs.length-1)=none:=hinv;rw[hinv]
    repeat refine⟨rfl,?_⟩
    conv=>whnf
    exact⟨⟨_,rfl,.nil⟩,hle3.lg⟩
  |false=>
   have hw1:Qih false=2:=rfl;have hw2:Qih (!false)=1:=rfl;rw[hw1,hw2]at hC ⊢
   repeat refine⟨rfl,?_⟩
   refine⟨_,⟨rfl,hb9.reads (λ k v hv=>by simpa using hv)⟩,?_⟩;refine⟨Qff.any,hfate.go λ _=>?_⟩
   repeat refine⟨rfl,?_⟩
   conv=>whnf
   apply Qe<;>intro hc
   .have e1:b.fatR q=2:=by simpa using hc
    rw[if_pos e1]
    repeat refine⟨rfl,?_⟩
    conv=>whnf
    exact⟨⟨_,rfl,.nil⟩,hle_2.lg⟩
   have e1:b.fatR q≠2:=by simpa using hc
   rw[if_neg e1]
   repeat refine⟨rfl,?_⟩
   conv=>whnf
   apply Qe<;>intro hc
   .have e2:b.fatR q=1:=by simpa using hc
    rw[if_pos e2]
    repeat refine⟨rfl,?_⟩
    conv=>whnf
    exact⟨⟨_,rfl,.nil⟩,hle_2.lg⟩
   have e2:b.fatR q≠1:=by simpa using hc
   rw[if_neg e2]
   refine⟨Nat,λ m=>[(1,.int .i64 q),(3,.pointer (some ⟨B,0,none⟩)),(9,.pointer (some ⟨b9,0,none⟩)),(10,.int .i64 2),(12,.int .i64 (m+1:Nat))],
    λ m U'=>U2.le U'/\(m=0\/m+1<=b.cs.length)/\(∀m',m'<m->F m'=none)/\Qdk F 0 (b.cs.length-1)=Qdk F m (b.cs.length-1-m),λ m=>b.cs.length-m,0,by trivial,⟨.refl _,.inl rfl,by simp,rfl⟩,?_⟩
   rintro m f U3⟨hle,hm,hno,hinv⟩;have hin:Zm (((m+1:Nat):Int)+1):=by unfold Zm;omega
   have hle3:=hle_2.trans hle;refine⟨_,(hB.le hle).sees3 (o:=1) rfl,?_⟩
   repeat refine⟨rfl,?_⟩
   conv=>whnf
   apply Qe<;>intro hc
   .have hlt:m+1<b.cs.length:=by simp at hc;omega
    obtain⟨sd,Lf,Lt,hD,hbst⟩:=hC e1 e2 m hlt hno;rw[show b.cs.length-1-m=(b.cs.length-1-(m+1))+1 by omega,Qqb]at hinv;refine⟨_,⟨rfl,(hb9.le hle).reads (λ k v hv=>by simpa using hv)⟩,?_⟩;refine⟨Qsr.any,(Qgs (U:=U3) (hle3.tok.trans htok) h b (hb.lg hle3.lg.frz2) hok q hq 2 m hD).mono ?_⟩;rintro _ U4⟨⟨v1,rfl,hv1⟩,h_4⟩-;rw[hbst]at hv1 ⊢;cases hFm:F m with
    |some x=>
     rw[hFm]at hv1 hinv;obtain⟨a1,c1,rfl,hr1⟩:=hv1;rw[hinv]
     repeat refine⟨rfl,?_⟩
     conv=>whnf
     exact⟨⟨_,rfl,⟨a1,c1,rfl,hr1⟩⟩,(hle3.trans h_4).lg⟩
    |none=>
     rw[hFm]at hv1 hinv;obtain⟨a1,c1,rfl,hr1⟩:=hv1
     repeat refine⟨rfl,?_⟩
     refine⟨hin,?_⟩
     conv=>whnf
     exact⟨rfl,m+1,by trivial,⟨hle.trans h_4,.inr (by omega),λ m' hm'=>by
      by_cases e:m'=m
      .rw[e];exact hFm
      .exact hno m' (by omega),hinv⟩,by show _-_<_-_;omega⟩
   .have hge:b.cs.length<=m+1:=by simp at hc;omega
    rw[show b.cs.length-1-m=0 by omega]at hinv;have hinv:Qdk F 0 (b.cs.length-1)=none:=hinv;rw[hinv]
    repeat refine⟨rfl,?_⟩
    conv=>whnf
    exact⟨⟨_,rfl,.nil⟩,hle3.lg⟩
 .have hst:b.staF r stands F=none:=by unfold Bk.staF;rw[if_neg hF]
  rw[if_neg hF,hst];refine⟨rfl,Zs (vs:=[.slice none 0 0,.slice none 0 0]) hf9 rfl (by simp[Value.single]) λ U3 h_3 _=>?_⟩
  repeat refine⟨rfl,?_⟩
  conv=>whnf
  apply Qe<;>intro hc
  .repeat refine⟨rfl,?_⟩
   conv=>whnf
   exact⟨⟨_,rfl,.nil⟩,(h_1.trans h_3).lg⟩
  .exact absurd (by simpa using hc) hF
end Go.Proofs
