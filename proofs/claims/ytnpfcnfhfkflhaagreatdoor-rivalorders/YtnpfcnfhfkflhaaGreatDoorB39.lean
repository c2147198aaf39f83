/- Lemmas. No conditions. -/
import Derived.Test.YtnpfcnfhfkflhaaGreatDoorB38
import Derived.Test.YtnpfcnfhfkflhaaGreatDoorB04
set_option linter.all false
open List
open Go.Proofs.Tryz (prog)
set_option maxRecDepth 100000
namespace Go.TM
def Bk.ords_le(b:Bk)(h:b.cs.length<=5):∀(k:Nat)(o:List Nat),(b.ords k o).length<=5^k:=by
 intro k
 induction k with
 |zero=>grind[Bk.ords]
 |succ k z=>
  intro o
  have key:∀m,(b.ordsTo k o m).length<=m*5^k:=by
   intro m
   induction m with
   |zero=>simp[Bk.ordsTo]
   |succ m w=>
    rw[b.ordsTo_succ,length_append,Nat.succ_mul]
    grind
  have e:=key b.cs.length;have f:b.cs.length*5^k<=5*5^k:=Nat.mul_le_mul_right _ h;rw[Nat.pow_succ,Nat.mul_comm];exact Nat.le_trans e f
def Bk.all_le(b:Bk)(h:b.cs.length<=5):b.all.length<=3125:=
 Nat.le_trans (b.ords_le h _ _) (Nat.le_trans (Nat.pow_le_pow_right O1 h) D1)
def Bk.wc(b:Bk)(k i:Nat):Nat:=(b.all.take k).countP λ o=>(b.ends o).2.getD i false
def Bk.wc_succ{b:Bk}{k:Nat}{o:List Nat}(h:b.all[k]?=some o)(i:Nat):b.wc (k+1) i=b.wc k i+if(b.ends o).2.getD i false then 1 else 0:=by
 simp_all[Bk.wc,Ji,countP_append,countP_cons]
def Bk.wc_le(b:Bk)(k i:Nat):b.wc k i<=b.all.length:=Nat.le_trans countP_le_length (by grind)
def Bk.sc(b:Bk)(k:Nat):List (WN×Nat):=Xw ((b.all.take k).map λ o=>six (W1 (b.ends o).1))
def Bk.sc_succ{b:Bk}{k:Nat}{o:List Nat}(h:b.all[k]?=some o):b.sc (k+1)=WF (six (W1 (b.ends o).1)) (b.sc k):=by
 unfold Bk.sc;rw[Ji h,map_append,map_singleton,Ix]
def Bk.sc_facts(b:Bk)(k:Nat):(b.sc k).length<=b.all.length/\(∀p∈b.sc k,p.2<=b.all.length)/\∀q:WN->Bool,XC q (b.sc k)=(b.all.take k).countP λ o=>q (six (W1 (b.ends o).1)):=by
 obtain⟨f,h,w⟩:=pZ _ ((b.all.take k).map λ o=>six (W1 (b.ends o).1)) rfl;have e:((b.all.take k).map λ o=>six (W1 (b.ends o).1)).length<=b.all.length:=S3
 exact⟨Nat.le_trans f e,λ p z=>Nat.le_trans (h p z) e,λ q=>by unfold Bk.sc;rw[w,countP_map];rfl⟩
def Wf(b:Bk)(k i:Nat):List Value:=(range b.cs.length).map λ j=>.int .i64 (b.wc (if j<i then k+1 else k) j:Nat)
theorem GY{b:Bk}{k i j:Nat}(h:j<b.cs.length):(Wf b k i)[j]?=some (.int .i64 (b.wc (if j<i then k+1 else k) j:Nat)):=by
 unfold Wf;rw[getElem?_map,getElem?_range h];rfl
theorem Lc(b:Bk)(k i:Nat):(Wf b k i).length=b.cs.length:=by simp[Wf]
def CQ(b:Bk)(k i:Nat)(h:i<b.cs.length):(Wf b k i).toArray.setIfInBounds i (.int .i64 (b.wc (k+1) i:Nat))=(Wf b k (i+1)).toArray:=by
 apply Array.ext';rw[Array.toList_setIfInBounds];apply ext_getElem?;intro j;rw[getElem?_set];by_cases e:i=j
 .simp_all[if_pos,Wf,GY]
 .rw[if_neg e];grind[GY,getElem?_eq_none,Lc]
def R4(b:Bk)(k:Nat):Wf b k b.cs.length=Wf b (k+1) 0:=by
 simp_all[Wf,map_congr_left,if_pos,if_neg]
def pu(b:Bk):Wf b 0 0=replicate b.cs.length (.int .i64 0):=by
 apply ext_getElem?;intro j;by_cases e:j<b.cs.length
 .rw[GY e,getElem?_replicate,if_pos e,if_neg O1];simp[Bk.wc]
 grind[getElem?_eq_none,Lc]
def kP{a n:Nat}(e:a<2^60)(h:n<60):IntKind.wrap .i64 ((BitVec.ofInt (IntKind.bits .i64) (Int.fdiv (a:Int) (2^(min ((n:Int).toNat) (IntKind.bits .i64))))&&&BitVec.ofInt (IntKind.bits .i64) 1).toNat:Int)=((if a.testBit n then 1 else 0:Nat):Int):=by
 have f:a>>>n<2^60:=Nat.lt_of_le_of_lt (Nat.shiftRight_le a n) e;have b:=SS f (show 1<2^60 by decide);rw[show((1:Nat):Int)=1 from rfl]at b;have w:Int.fdiv (a:Int) (2^(min ((n:Int).toNat) (IntKind.bits .i64)))=((a>>>n:Nat):Int):=YT h;have z:=HX e h;rw[YT h,b]at z;rw[w];refine b.trans ?_;grind
variable{T:Type}{U:Qa T}
def kj{b:Nat}{c:Array Value}{t:TypeId}{M':List Qx}{Q:Qa T->Prop}(f:U.free b)(w:M'.Sublist U.M)(h:∀e:Qa T,(∀x o,U.I x=some o->e.I x=some o)->e.tok=U.tok->e.M=M'->Zi e b c->Q e):∃e,Qw (U.put b (.cells c t)) e/\Q e:=
 ⟨_,(We (b:=b) (M':=U.M) (Perm.refl _)).trans (Z1 (M':=M') w),h _ (GF (o:=.cells c t) f).imm rfl rfl Zi.new⟩
def BX{κ:Type}[DecidableEq κ](k:κ)(z:Value)(l:List (κ×Value)):(lk k (X3 k z l)).getD z=(lk k l).getD z:=by
 unfold X3;split
 .rfl
 .rename_i h;have b:lk k l=none:=by simpa using h
  rw[b]
  have:∀(l:List (κ×Value))(i:Nat),QM k l i=none->((QM k (l++[(k,z)]) i).map (·.2))=some z:=by
   intro l
   induction l with
   |nil=>grind[QM]
   |cons p l f=>
    intro i e;simp only[QM]at e;split at e
    .cases e
    simp_all[cons_append,QM,if_neg]
  unfold lk at b ⊢;rw[this l 0 (by simpa using b)];rfl
end Go.TM
namespace Go.Proofs
open Go.TM
def Dy:∃b,prog.info? 3=some b/\b.zero=some (.int .i64 0)/\b.size=1/\b.bytes=8:=by
 have e:(prog.info? 3).map (·.zero)=some (some (.int .i64 0)):=K1
 have f:(prog.info? 3).map (·.size)=some 1:=K1
 have w:(prog.info? 3).map (·.bytes)=some 8:=K1
 cases h:prog.info? 3 with
 |none=>simp_all
 |some b=>
  simp_all
def Og:TW prog 88 6:=.of K1
def GU:prog.underlying 183=some (.map 88 3):=K1
def VR{T:Type}:WJ T prog 88 (λ k:WN=>.agg (HA k).toArray):=by
 obtain⟨e,B,b,f,w,z,-⟩:=Og.h;exact WJ.arr b f rfl w z (λ k=>rfl) (λ k=>O_ _) Br λ k=>by simp[Instr.sameBits,HA,QO]
def DB:Xa prog 36 51 1:=.of K1
def Fy:List (List (Nat×St)):=[[(0,.xl 27 4),(0,.xo 28 1 7),(0,.xd 29 6 28),(2,.d 30 (.raw { dst:=none,op:=(.lookup 183 (.t 27) (.t 29) false),type:=3,pos := "", after:=#[],guard:=none })),(0,.xa 31 30),(2,.d 32 (.raw { dst:=none,op:=(.mapEntry 183 (.t 27) (.t 29)),type:=0,pos := "", after:=#[],guard:=none })),(0,.xe 33 32 1)],
 [(0,.xl 27 4),(0,.xo 28 1 7),(0,.xd 29 6 28),(2,.d 32 (.raw { dst:=none,op:=(.mapEntry 183 (.t 27) (.t 29)),type:=0,pos := "", after:=#[],guard:=none })),(0,.xe 33 32 1),(2,.d 30 (.raw { dst:=none,op:=(.lookup 183 (.t 27) (.t 29) false),type:=3,pos := "", after:=#[],guard:=none })),(0,.xa 31 30)]]
def AX:List St:=[⟨.raw { dst:=none,op:=(.entryStore 183 (.t 27) (.t 33) (.t 31)),type:=0,pos := "", after:=#[],guard:=none },none,none,none⟩]
end Go.Proofs
namespace Go.TM
variable{T:Type}{P:Program}{S:Sys P T}{U:Qa T}
def Acc.letgo{e n:Nat}{v:Value}{cs:List Value}{M A M₀:List Qx}(h:Acc e n v cs M (A++M₀)):∃M',M'.Sublist M/\Acc e n v cs M' M₀:=by
 rcases h with⟨f,w,F⟩|⟨b,c,len,cap,f,w,z,B,F,E⟩
 .exact⟨M₀,S2,.inl ⟨f,w,rfl⟩⟩
 .exact⟨_,S2,.inr ⟨b,c,len,cap,f,w,z,B,rfl,E⟩⟩
def WH.sublist{U:Qa T}{M':List Qx}(e:WH U)(h:M'.Sublist U.M):WH { U with M:=M' }:=λ r b=>e r (h.subset b)
def Qb.lists2{f:FuncId}{args:Array Value}{e e':Nat}{Y Z:List Int}{rest:List Value}(h:Qb S f args (λ v U'=>∃z B A K,v=.tuple (z::B::rest).toArray/\Acc e' 1 B (Z.map λ n=>.int .i64 n) U'.M K/\Acc e 1 z (Y.map λ n=>.int .i64 n) K (A++U.M)/\(∀x N,U.I x=some N->U'.I x=some N)/\U'.tok=U.tok) U) :
  Qb S f args (λ v U'=>(∃z B,v=.tuple (z::B::rest).toArray/\Jd U'.frz z Y/\Jd U'.frz B Z)/\U.le U') U:=by
 have G:Qb S f args (λ v U'=>∃z B A,v=.tuple (z::B::rest).toArray/\Jd U'.frz B Z/\Acc e 1 z (Y.map λ n=>.int .i64 n) U'.M (A++U.M)/\(∀x N,U.I x=some N->U'.I x=some N)/\U'.tok=U.tok) U:=by
  refine h.sep λ v U' T⟨z,B,A,K,W,P,G,Q,V⟩=>?_;obtain⟨b,X,E,a,len,cap,rfl,L,w,H,_⟩:=P.freeze (U:={ U' with M:=K }) T (λ _ _ h=>h) rfl;simp at L;exact⟨b,X,z,_,A,W,⟨a,cap,by rw[L],Vf w H⟩,by rw[show b.M=K from E.own];exact G,λ x o h=>E.imm x o (Q x o h),E.tok.trans V⟩
 refine G.sep λ v U' T⟨z,B,A,W,P,G,Q,V⟩=>?_;obtain⟨M',F,G⟩:=G.letgo;obtain⟨b,X,E,a,len,cap,rfl,L,w,H,_⟩:=G.freeze (U:={ U' with M:=U.M }) (U':={ U' with M:=M' }) (T.sublist F) (λ _ _ h=>h) rfl;simp at L;have hz:U'.frz.lg b.frz:=⟨E.imm,⟨[],rfl⟩,E.tok⟩;exact⟨b,(Z1 F).trans X,⟨_,B,W,⟨a,cap,by rw[L],Vf w H⟩,P.lg hz⟩,⟨λ x o h=>E.imm x o (Q x o h),E.own,E.tok.trans V⟩⟩
def Jw(e:TypeId)(n:Nat)(v:Value)(cs:List Value)(A:List Qx):Prop:=∀M₁,Acc e n v cs (A++M₁) M₁
def Acc.split{e n:Nat}{v:Value}{cs:List Value}{M M₀:List Qx}(h:Acc e n v cs M M₀):∃A,M=A++M₀/\Jw e n v cs A:=by
 rcases h with⟨rfl,rfl,rfl⟩|⟨b,c,len,cap,rfl,f,w,z,rfl,B⟩
 .exact⟨[],rfl,λ _=>.inl ⟨rfl,rfl,rfl⟩⟩
 .exact⟨[_],rfl,λ _=>.inr ⟨b,c,len,cap,rfl,f,w,z,rfl,B⟩⟩
def Jw.nil{e n:Nat}:Jw e n (.slice none 0 0) [] []:=λ _=>.nil
def Jw.src{e n:Nat}{v:Value}{cs:List Value}{A:List Qx}(h:Jw e n v cs A):∃a l c,v=.slice a l c/\cs.length=l*n:=by
 rcases h []with⟨rfl,rfl,_⟩|⟨b,c,len,cap,rfl,f,_⟩
 .exact⟨none,0,0,rfl,S1⟩
 grind
def PN{b:Nat}{o e:Obj}{M M':List Qx}(h:J4 b e o M M'):∀A:List Qx,J4 b e o (A++M) (A++M')
 |[]=>h
 |_::A=>.there (PN h A)
def R5{s:Nat->Bool}{r:Nat}(b:r<6):ZJ (QO s) (QO (HE s r true))=s r:=by
 rw[Bool.eq_iff_iff,D7];unfold HE;grind
def wh{κ:Type}{l:List (κ×Nat)}{i:Nat}{p:κ×Value}(h:(QH l)[i]?=some p):∃q,l[i]?=some q/\p=(q.1,.int .i64 (q.2:Nat)):=by
 unfold QH at h;rw[getElem?_map]at h;cases b:l[i]? with
 |none=>rw[b]at h;cases h
 |some q=>rw[b]at h;cases h;exact⟨q,rfl,rfl⟩
def R6{κ:Type}{q:κ->Bool}{l:List (κ×Nat)}{seen:Array Nat}{i:Nat}{p:κ×Nat}(h:l[i]?=some p):Xi q l (seen.push i).toList=Xi q l seen.toList+if q p.1 then p.2 else 0:=by
 unfold Xi;rw[Array.toList_push,map_append,sum_append];simp[h]
abbrev ZI:WN->Value:=λ k=>.agg (HA k).toArray
end Go.TM
namespace Go.Proofs
open Go.TM
variable{T:Type}{S:TM.Sys prog T}{U:Qa T}
attribute [local irreducible] Qb Zl Wt
set_option maxHeartbeats 2000000 in
def UO(h:BH)(b:Bk)(hb:Zq U.frz h b)(cp:b.Ok):Qb S 77 #[h.v] (λ v U'=>(∃v1 v2,v=.tuple #[v1,v2]/\Jd U'.frz v1 b.fatesR/\Jd U'.frz v2 b.fatesC)/\U.le U') U:=by
 refine Qb.lists2 (e:=51) (e':=51) (rest:=[]) (Qb.of (args:=[_]) S6 Qf S1 ?_);have dv:=hb.cs.1;have eo:=hb.rs.1;have d5:=cp.nc;have em:=cp.nr;have hN:=b.all_le d5;obtain⟨i3,ee,ef,eg,et⟩:=Dy
 repeat refine⟨rfl,?_⟩
 conv=>whnf
 intro B U1 bh hB;have hB:Zi U1 B #[.slice h.ra h.rl h.rc,.slice h.ca h.cl h.cc]:=hB
 conv=>whnf
 refine Pu ZI λ mb d3=>?_
 conv=>whnf
 intro b4 c7;refine⟨_,.refl _,rfl,Zt (vs:=[.map (some mb)]) c7 rfl (by simp[Value.single]) λ U2 ch bj=>?_⟩;have W:U1.lg U2:=(Z4 mb _).trans ch.lg;refine⟨_,(hB.lg W).sees3 (o:=1) rfl,?_⟩
 conv=>whnf
 refine EK (n:=h.cl) Pf ee ef rfl eg O1 rfl rfl O1 λ F ed=>?_
 conv=>whnf
 intro b5 c8;refine⟨_,.refl _,rfl,Zt (vs:=[.slice (some ⟨F,0,none⟩) h.cl h.cl]) c8 rfl (by simp[Value.single]) λ U3 cj bk=>?_⟩;have X:U2.lg U3:=(Z4 F _).trans cj.lg
 conv=>whnf
 intro P dx;refine⟨_,.refl _,rfl,HR (vs:=[.int .i64 0]) rfl (by simp[Value.single]) ?_⟩;have aa:=Z4 (U:=U3) P (.cells #[.int .i64 0] 3);refine⟨_,⟨rfl,(hB.lg (W.trans (X.trans aa))).rd⟩,?_⟩;refine⟨TL.any,(F8 h b ((hb.lg bh.lg.frz2).lg (Qp.trans (W.trans (X.trans aa))))).mono ?_⟩;rintro _ U4⟨⟨B',rfl,cu⟩,az⟩-;have aj:U1.lg U4:=W.trans (X.trans (aa.trans az.lg));have bj:Zi U4 b4 #[.map (some mb)]:=bj.lg (X.trans (aa.trans az.lg));have bk:Zi U4 b5 #[.slice (some ⟨F,0,none⟩) h.cl h.cl]:=bk.lg (aa.trans az.lg)
 have dp:U4.M=.obj P (.cells #[.int .i64 ((0:Nat):Int)] 3 (0,0))::.obj F (.cells (Wf b 0 0).toArray 3 (0,0))::.obj mb (Qt ZI (QH (b.sc 0)))::U.M:=by
  rw[az.own,pu,dv];show _::U3.M=_;rw[cj.own];show _::_::U2.M=_;rw[ch.own];show _::_::_::U1.M=_;rw[bh.own];rfl
 have bz:U.frz.lg U4.frz:=bh.lg.frz2.trans aj.frz2;have d9:U4.tok=U.tok:=aj.tok.trans bh.tok;have bm:∀l N,U4.frz.lg N->YA S 132 #[.func (.yield l) #[] #[],.pointer (some ⟨B',0,none⟩)] l b.all.length (Gd b) N:=λ l N hl=>Dv h b (hb.lg (bz.trans hl.frz2)) cp (cu.imI hl.imm);clear cu aa X W ed c7 c8 dx d3 ch cj az
 conv=>whnf
 let ZE:Nat->Qa T->Prop:=λ k U'=>U4.frz.lg U'/\U'.M=.obj P (.cells #[.int .i64 (k:Nat)] 3 (0,0))::.obj F (.cells (Wf b k 0).toArray 3 (0,0))::.obj mb (Qt ZI (QH (b.sc k)))::U.M
 refine Eg Qf b.all.length (Gd b) ZE (λ _ _=>False) (λ _=>False) rfl rfl OV.any bm ?_ ?_ ⟨Qp,dp⟩ ?_ ?_ ?_ ?_
 .rintro k p U' ⟨o,v,-,rfl,-⟩;rfl
 .rintro k U' U'' w ⟨hl,hM⟩;exact⟨SX hl w,w.own.trans hM⟩
 .rintro l A' Bd D k p U₀ KN KX KR KA hk ⟨o,v,ho,rfl,a,cap,rfl,hio,hcap,hsp⟩ ⟨hl,hM⟩ hKN hKX hKR hKA
  conv=>whnf
  intro b7 c9;refine⟨_,.refl _,rfl,Zt (vs:=QT (.slice a o.length cap) (W1 (b.ends o).1) (J2 (b.ends o).2)) c9 rfl (by simp[QT,Value.single]) λ N bi bw=>?_⟩
  conv=>whnf
  have e1:N=({ N with M:=U₀.M }:Qa T).on A' D:=by
   have:=bi.own;obtain⟨i1,m1,t1⟩:=N;simp only[Qa.on]at this ⊢;rw[this]
  rw[e1];refine hKA _ _ ?_;have bg:(({ N with M:=U₀.M }:Qa T).on Bd D).M=[Bd,D]++(.obj P (.cells #[.int .i64 (k:Nat)] 3 (0,0))::.obj F (.cells (Wf b k 0).toArray 3 (0,0))::.obj mb (Qt ZI (QH (b.sc k)))::U.M):=by show Bd::D::U₀.M=_;rw[hM];rfl
  have cf:∀x o,U₀.I x=some o->(({ N with M:=U₀.M }:Qa T).on Bd D).I x=some o:=λ x o h=>bi.imm x o h;have au:Zi (({ N with M:=U₀.M }:Qa T).on Bd D) b7 (QT (.slice a o.length cap) (W1 (b.ends o).1) (J2 (b.ends o).2)).toArray:=bw;have cq:(({ N with M:=U₀.M }:Qa T).on Bd D).tok=U₀.tok:=bi.tok;generalize(({ N with M:=U₀.M }:Qa T).on Bd D)=U6 at bg cf au cq ⊢;clear e1 bi bw c9;refine⟨_,Za [Bd,D] bg 0 _ rfl,I1,?_⟩;refine⟨rfl,Wh (vs:=[.int .i64 ((k:Int)+1)]) [Bd,D] bg rfl (by simp[Value.single]) λ U7 ay b8 al=>?_⟩;have bf:∀x o,U₀.I x=some o->U7.I x=some o:=λ x o h=>by rw[ay];exact cf x o h
  have au:Zi U7 b7 (QT (.slice a o.length cap) (W1 (b.ends o).1) (J2 (b.ends o).2)).toArray:=au.imI λ x o h=>by rw[ay];exact h
  have br:Zi U7 b4 #[.map (some mb)]:=bj.imI λ x o h=>bf x o (hl.imm x o h);have bs:Zi U7 b5 #[.slice (some ⟨F,0,none⟩) h.cl h.cl]:=bk.imI λ x o h=>bf x o (hl.imm x o h);have di:U7.tok=U₀.tok:=b8.trans cq;obtain⟨dd,an,-⟩:=b.sc_facts k;have dw:JC (six (W1 (b.ends o).1)) (b.sc k)<=3125:=Nat.le_trans (Ii _ _ an) hN;have dz:∀q:WN,ZI q=.agg (HA q).toArray:=λ _=>rfl;have af:Value.agg (QO (W1 (b.ends o).1)).toArray=ZI (six (W1 (b.ends o).1)):=by rw[dz,kW]
  have ao:=CO (six (W1 (b.ends o).1)) (.int .i64 0) (.int .i64 ((JC (six (W1 (b.ends o).1)) (b.sc k)+1:Nat):Int)) (QH (b.sc k));rw[L0,<- b.sc_succ ho]at ao;have a8:Zu ((JC (six (W1 (b.ends o).1)) (b.sc k):Nat)+1:Int):=I1
  have bd:Jn U7.frz ((Addr.mk b7 0 none).add 1) (QO (W1 (b.ends o).1)):=
   ((au.imI (U':=U7.frz) λ _ _ h=>h).reads (vs:=QT (.slice a o.length cap) (W1 (b.ends o).1) (J2 (b.ends o).2)) (λ k v hv=>by simpa using hv)).sub (o:=1) (n:=6)
  have a0:Zi U7.frz b4 #[.map (some mb)]:=br.imI λ _ _ h=>h;generalize hK:six (W1 (b.ends o).1)=ky at dw af ao a8
  let F0:Qa T->Prop:=λ U'=>U7.frz.lg U'/\U'.M=U7.M
  let F1:Qa T->Prop:=λ U'=>U7.frz.lg U'/\U'.M=[Bd,D]++(.obj P (.cells #[.int .i64 ((k:Int)+1)] 3 (0,0))::.obj F (.cells (Wf b k 0).toArray 3 (0,0))::.obj mb (Qt ZI (X3 ky (.int .i64 0) (QH (b.sc k))))::U.M)
  conv=>whnf
  intro ac a6
  refine SQ (mu:=[]) (ops:=Pl Tryz.f77 7) (id:=7) a6 [3,5] [[0,1,2,3,4,5,6],[0,1,2,5,6,3,4]] [7] Fy AX Qf K1 K1 K1 K1 K1
   (λ f' ct U'=>ct=[]/\XF f' [(5,.pointer (some ⟨b5,0,none⟩)),(7,.pointer (some ⟨b7,0,none⟩)),(27,.map (some mb)),(31,.int .i64 ((JC ky (b.sc k):Nat)+1:Int)),(33,.int .i64 (XX ky (QH (b.sc k)):Nat))]/\F1 U') ?_ ?_
  .intro l hl;simp only[Fy,mem_cons,not_mem_nil,or_false]at hl;rcases hl with rfl|rfl
   .skip
    refine⟨_,a0.sees3 (o:=0) rfl,_,⟨rfl,bd⟩,λ v U'=>v=.int .i64 (JC ky (b.sc k):Nat)/\F0 U',λ v U1 U2 G w=>⟨G.1,G.2.1.trans w.lg,w.own.trans G.2.2⟩,λ v U' G=>G.2.1,λ U' hC=>?_,λ v hv=>?_⟩
    .have H:U'.M=U7.M:=hC.own;have E:U7.frz.lg U':=⟨hC.imm,⟨_,(append_nil _).symm⟩,hC.tok⟩
     conv=>whnf
     refine Ts (k:=ky) (l:=QH (b.sc k)) VR GU HW rfl af (.inr (by rw[H,al];simp)) ?_;rw[Yu];exact⟨_,.refl _,rfl,E,H⟩
    obtain⟨_,rfl,-⟩:=hv;refine⟨a8,λ v U'=>v=.tuple #[.int .i64 (JC ky (b.sc k):Nat),.int .i64 (XX ky (QH (b.sc k)):Nat)]/\F1 U',λ v U1 U2 G w=>⟨G.1,G.2.1.trans w.lg,w.own.trans G.2.2⟩,λ v U' G=>G.2.1,λ U' hC=>?_,λ v hv=>?_⟩
    .obtain⟨-,E,H⟩:=hC
     conv=>whnf
     refine EE (k:=ky) (l:=QH (b.sc k)) (z:=.int .i64 0) (M':=[Bd,D]++(.obj P (.cells #[.int .i64 ((k:Int)+1)] 3 (0,0))::.obj F (.cells (Wf b k 0).toArray 3 (0,0))::.obj mb (Qt ZI (X3 ky (.int .i64 0) (QH (b.sc k))))::U.M)) VR GU HW rfl af (by rw[H,al];exact .there (.there (.there (.there .here)))) ?_;rw[Yu];exact⟨_,.refl _,rfl,⟨E.imm,⟨_,(append_nil _).symm⟩,E.tok⟩,rfl⟩
    obtain⟨_,rfl,-⟩:=hv
    conv=>whnf
    rintro U'⟨-,G⟩;exact⟨rfl,T1,G⟩
   .skip
    refine⟨_,a0.sees3 (o:=0) rfl,_,⟨rfl,bd⟩,λ v U'=>v=.tuple #[.int .i64 (JC ky (b.sc k):Nat),.int .i64 (XX ky (QH (b.sc k)):Nat)]/\F1 U',λ v U1 U2 G w=>⟨G.1,G.2.1.trans w.lg,w.own.trans G.2.2⟩,λ v U' G=>G.2.1,λ U' hC=>?_,λ v hv=>?_⟩
    .have H:U'.M=U7.M:=hC.own;have E:U7.frz.lg U':=⟨hC.imm,⟨_,(append_nil _).symm⟩,hC.tok⟩
     conv=>whnf
     refine EE (k:=ky) (l:=QH (b.sc k)) (z:=.int .i64 0) (M':=[Bd,D]++(.obj P (.cells #[.int .i64 ((k:Int)+1)] 3 (0,0))::.obj F (.cells (Wf b k 0).toArray 3 (0,0))::.obj mb (Qt ZI (X3 ky (.int .i64 0) (QH (b.sc k))))::U.M)) VR GU HW rfl af (by rw[H,al];exact .there (.there (.there (.there .here)))) ?_;rw[Yu];exact⟨_,.refl _,rfl,⟨E.imm,⟨_,(append_nil _).symm⟩,E.tok⟩,rfl⟩
    obtain⟨_,rfl,-⟩:=hv;refine⟨λ v U'=>v=.int .i64 (JC ky (b.sc k):Nat)/\F1 U',λ v U1 U2 G w=>⟨G.1,G.2.1.trans w.lg,w.own.trans G.2.2⟩,λ v U' G=>G.2.1,λ U' hC=>?_,λ v hv=>?_⟩
    .obtain⟨-,E,H⟩:=hC
     conv=>whnf
     refine Ts (k:=ky) (l:=X3 ky (.int .i64 0) (QH (b.sc k))) VR GU HW rfl af (.inr (by rw[H];simp)) ?_;rw[BX,Yu];exact⟨_,.refl _,rfl,E,H⟩
    obtain⟨_,rfl,-⟩:=hv;refine⟨a8,?_⟩
    conv=>whnf
    rintro U'⟨-,G⟩;exact⟨rfl,T1,G⟩
  rintro f' ct U8⟨rfl,da,Y,bp⟩;rw[<- da.ovr];clear da;have dq:List Qx:=[Bd,D]++(.obj P (.cells #[.int .i64 ((k:Int)+1)] 3 (0,0))::.obj F (.cells (Wf b k 0).toArray 3 (0,0))::.obj mb (Qt ZI (QH (b.sc (k+1))))::U.M)
  conv=>whnf
  refine yG (n:=XX ky (QH (b.sc k))) (l:=X3 ky (.int .i64 0) (QH (b.sc k))) (v:=.int .i64 ((JC ky (b.sc k)+1:Nat):Int)) (M':=[Bd,D]++(.obj P (.cells #[.int .i64 ((k:Int)+1)] 3 (0,0))::.obj F (.cells (Wf b k 0).toArray 3 (0,0))::.obj mb (Qt ZI (QH (b.sc (k+1))))::U.M)) rfl rfl ao.2 rfl (by rw[bp,ao.1];exact .there (.there (.there (.there .here)))) ?_
  conv=>whnf
  intro a' bl;refine⟨by rw[bl.size,a6.size],_,bl.get,?_⟩;rw[bl.ds];clear bl a6;have bv:=au.imI Y.imm;have bt:=bs.imI Y.imm;have bo:∀x o,U₀.I x=some o->U8.I x=some o:=λ x o h=>Y.imm x o (bf x o h);have b9:U8.tok=U₀.tok:=Y.tok.trans di;generalize aq:({ U8 with M:=[Bd,D]++(.obj P (.cells #[.int .i64 ((k:Int)+1)] 3 (0,0))::.obj F (.cells (Wf b k 0).toArray 3 (0,0))::.obj mb (Qt ZI (QH (b.sc (k+1))))::U.M) }:Qa T)=U9;have cx:U9.M=[Bd,D]++(.obj P (.cells #[.int .i64 ((k:Int)+1)] 3 (0,0))::.obj F (.cells (Wf b k 0).toArray 3 (0,0))::.obj mb (Qt ZI (QH (b.sc (k+1))))::U.M):=by rw[<- aq]
  have cw:∀x o,U₀.I x=some o->U9.I x=some o:=by rw[<- aq];exact bo
  have c4:Zi U9 b7 (QT (.slice a o.length cap) (W1 (b.ends o).1) (J2 (b.ends o).2)).toArray:=by rw[<- aq];exact bv
  have bu:Zi U9 b5 #[.slice (some ⟨F,0,none⟩) h.cl h.cl]:=by rw[<- aq];exact bt
  have dh:U9.tok=U₀.tok:=by rw[<- aq];exact b9
  clear aq dq bp Y bv bt bo b9 a0 bd br bs au al ay bf b8 di bg cf cq F0 F1;have d2:=b.ends_len o;have ec:J2 (b.ends o).2<2^5:=Sb _ O1;have dj:J2 (b.ends o).2<2^60:=Nat.lt_trans ec D1;refine⟨_,bu.sees3 (o:=0) rfl,Nat,λ i=>[(5,.pointer (some ⟨b5,0,none⟩)),(7,.pointer (some ⟨b7,0,none⟩)),(35,.int .i64 h.cl),(36,.int .i64 i)],
   λ i U'=>U9.frz.lg U'/\U'.M=[Bd,D]++(.obj P (.cells #[.int .i64 ((k:Int)+1)] 3 (0,0))::.obj F (.cells (Wf b k i).toArray 3 (0,0))::.obj mb (Qt ZI (QH (b.sc (k+1))))::U.M)/\i<=h.cl,λ i=>h.cl-i,0,T1,⟨Qp,cx,O1⟩,?_⟩
  rintro i f Ua⟨V,ab,hi⟩;have a7:Zu ((i:Int)+1):=I1
  repeat refine⟨rfl,?_⟩
  conv=>whnf
  apply Qe<;>intro hc
  .have av:i<h.cl:=by simpa using hc
   have es:=b.wc_le k i;have ag:=GY (b:=b) (k:=k) (i:=i) (j:=i) O1;rw[if_neg O1]at ag
   have cr:Ua.sees ((Addr.mk F 0 none).add (i*1)) (.int .i64 (b.wc k i:Nat)):=by
    rw[Nat.mul_one];exact Za [Bd,D,_] ab i _ ag
   have ck:=kP dj (show i<60 by omega);rw[GV]at ck
   have db:Zu ((b.wc k i:Nat)+IntKind.wrap .i64 ((BitVec.ofInt (IntKind.bits .i64) (Int.fdiv (J2 (b.ends o).2:Int) (2^(min ((i:Int).toNat) (IntKind.bits .i64))))&&&BitVec.ofInt (IntKind.bits .i64) 1).toNat:Int)):=by
    rw[ck];unfold Zu;split <;> omega
   have e2:((b.wc k i:Nat):Int)+IntKind.wrap .i64 ((BitVec.ofInt (IntKind.bits .i64) (Int.fdiv (J2 (b.ends o).2:Int) (2^(min ((i:Int).toNat) (IntKind.bits .i64))))&&&BitVec.ofInt (IntKind.bits .i64) 1).toNat:Int)=((b.wc (k+1) i:Nat):Int):=by
    rw[ck,b.wc_succ ho i];simp
   refine⟨_,(bu.imI V.imm).sees3 (o:=0) rfl,⟨F,0,none⟩,i,⟨rfl,rfl,av⟩,_,cr,_,(c4.imI V.imm).sees3 (o:=7) rfl,O1,rfl,?_⟩
   conv=>whnf
   intro Ub L _;have Q:=L.own.trans ab;refine⟨db,?_⟩;rw[e2];refine⟨⟨F,0,none⟩,i,⟨rfl,rfl,av⟩,rfl,?_⟩;rw[Nat.mul_one];refine WS (i:=i) (v:=.int .i64 (b.wc (k+1) i:Nat)) [Bd,D,_] Q (by simp[Wf];omega) rfl λ Uc dl ea ap=>?_;rw[CQ b k i O1]at ap;have d1:U9.frz.lg Uc:=⟨λ x o h=>by rw[dl];exact L.imm x o (V.imm x o h),⟨_,(append_nil _).symm⟩,ea.trans (L.tok.trans V.tok)⟩;refine⟨a7,?_⟩
   conv=>whnf
   exact⟨rfl,i+1,T1,⟨d1,ap,O1⟩,L1⟩
  .have hge:i=b.cs.length:=by simp at hc;omega
   subst hge;rw[R4]at ab
   have e3:Ua=({ Ua with M:=.obj P (.cells #[.int .i64 ((k:Int)+1)] 3 (0,0))::.obj F (.cells (Wf b (k+1) 0).toArray 3 (0,0))::.obj mb (Qt ZI (QH (b.sc (k+1))))::U.M }:Qa T).on Bd D:=by
    obtain⟨i1,m1,t1⟩:=Ua;simp only[Qa.on]at ab ⊢;rw[ab];rfl
   have dc:U₀.frz.lg ({ Ua with M:=.obj P (.cells #[.int .i64 ((k:Int)+1)] 3 (0,0))::.obj F (.cells (Wf b (k+1) 0).toArray 3 (0,0))::.obj mb (Qt ZI (QH (b.sc (k+1))))::U.M }:Qa T):=⟨λ x o h=>V.imm x o (cw x o h),⟨_,(append_nil _).symm⟩,V.tok.trans dh⟩;have d0:=hl.frz2.trans dc
   conv=>whnf
   rw[e3];exact hKN _ _ _ dc ⟨d0,rfl⟩
 .rintro d l OA U3' ⟨hl,hM⟩;have cg:(U3'.on (.obj l OA) (.obj d (.deferred (some [])))).M=[.obj l OA,.obj d (.deferred (some []))]++(.obj P (.cells #[.int .i64 (b.all.length:Nat)] 3 (0,0))::.obj F (.cells (Wf b b.all.length 0).toArray 3 (0,0))::.obj mb (Qt ZI (QH (b.sc b.all.length)))::U.M):=by show _::_::U3'.M=_;rw[hM];rfl
  have ax:∀x o,U4.I x=some o->(U3'.on (.obj l OA) (.obj d (.deferred (some [])))).I x=some o:=hl.imm;have df:(U3'.on (.obj l OA) (.obj d (.deferred (some [])))).tok=U4.tok:=hl.tok;generalize(U3'.on (.obj l OA) (.obj d (.deferred (some []))))=N at cg ax df ⊢;have dk:Zi N B #[.slice h.ra h.rl h.rc,.slice h.ca h.cl h.cc]:=hB.imI λ x o h=>ax x o (aj.imm x o h);have c2:Zi N b4 #[.map (some mb)]:=bj.imI ax;have c3:Zi N b5 #[.slice (some ⟨F,0,none⟩) h.cl h.cl]:=bk.imI ax;have cv:∀x o,U.I x=some o->N.I x=some o:=λ x o h=>ax x o (bz.imm x o h);have dg:N.tok=U.tok:=df.trans d9;obtain⟨dd,an,b3⟩:=b.sc_facts b.all.length;rw[take_length]at b3;generalize aw:[.obj l OA,.obj d (.deferred (some []))]++(.obj P (.cells #[.int .i64 (b.all.length:Nat)] 3 (0,0))::.obj F (.cells (Wf b b.all.length 0).toArray 3 (0,0))::.obj mb (Qt ZI (QH (b.sc b.all.length)))::U.M)=Ba at cg;have bb:Qx.obj mb (Qt ZI (QH (b.sc b.all.length)))∈Ba:=by rw[<- aw];simp
  clear hl hM bm ZE;refine⟨_,dk.sees3 (o:=0) rfl,Nat×Value,λ y=>[(2,y.2),(3,.slice none 0 0),(4,.pointer (some ⟨b4,0,none⟩)),(5,.pointer (some ⟨b5,0,none⟩)),(6,.pointer (some ⟨P,0,none⟩)),(54,.int .i64 h.rl),(55,.int .i64 y.1)],
   λ y U'=>N.frz.lg U'/\(∃A,U'.M=A++Ba/\Jw 51 1 y.2 (((range y.1).map b.fatR).map λ n=>.int .i64 n) A)/\y.1<=h.rl,λ y=>h.rl-y.1,(0,.slice none 0 0),T1,⟨Qp,⟨[],cg,.nil⟩,O1⟩,?_⟩
  rintro⟨r,v⟩f Ua⟨V,⟨A,ab,Z⟩,hr⟩;simp only at Z hr;obtain⟨sa,sl,sc,rfl,ep⟩:=Z.src;have a7:Zu ((r:Int)+1):=I1
  repeat refine⟨rfl,?_⟩
  conv=>whnf
  apply Qe<;>intro hc
  .have hrt:r<h.rl:=by simpa using hc
   have ak:r<6:=O1
   refine⟨_,(c2.imI V.imm).sees3 (o:=0) rfl,?_⟩
   conv=>whnf
   refine OC (enc:=ZI) (l:=QH (b.sc b.all.length)) GU rfl (.inr (by rw[ab];exact mem_append_right _ bb)) λ it ei=>?_
   refine⟨Array Nat,λ seen=>[(2,.slice sa sl sc),(3,.slice none 0 0),(4,.pointer (some ⟨b4,0,none⟩)),(5,.pointer (some ⟨b5,0,none⟩)),(6,.pointer (some ⟨P,0,none⟩)),(9,.int .i64 r),(10,.int .i64 (Xi (λ k:WN=>W1 k.1 r) (b.sc b.all.length) seen.toList:Nat)),(54,.int .i64 h.rl),(55,.int .i64 r),(59,.pointer (some ⟨it,0,none⟩))],
    λ seen U'=>N.frz.lg U'/\U'.M=.obj it (Jz mb (QH (b.sc b.all.length)).length seen)::(A++Ba)/\seen.toList.Nodup/\∀i∈seen.toList,i<(b.sc b.all.length).length,λ seen=>(b.sc b.all.length).length-seen.size,#[],T1,⟨V.trans (Z4 _ _),by show _::Ua.M=_;rw[ab],S1,S1⟩,?_⟩
   rintro seen f Ub⟨L,Q,co,av⟩
   have d8:seen.size<=(b.sc b.all.length).length:=by
    have:=H7 co av;simpa using this
   have ej:=FZ (q:=λ k:WN=>W1 k.1 r) an seen.toList;have d4:seen.toList.length*b.all.length<=3125*3125:=Nat.mul_le_mul (by rw[Array.length_toList];omega) hN
   conv=>whnf
   refine YX (enc:=ZI) (l:=QH (b.sc b.all.length)) (λ o=>.obj it o::(A++Ba)) rfl (.inr (by rw[Q];exact mem_cons_of_mem _ (mem_append_right _ bb))) (λ o=>by rw[Q];exact .here) (λ c1=>?_) (λ i p hp d6=>?_)
   .have hfin:Xi (λ k:WN=>W1 k.1 r) (b.sc b.all.length) seen.toList=b.all.countP λ o=>(b.ends o).1.getD r false:=by
     rw[Af co av (λ i hi=>by have:=c1 i (by rw[zO];exact hi);simpa using this),b3];congr 1;funext o;exact Ib _ ak
    have be:H9 (Xi (λ k:WN=>W1 k.1 r) (b.sc b.all.length) seen.toList) b.all.length=b.fatR r:=by rw[hfin];rfl
    have du:=Za (U:=Ub) (b:=P) (e:=3) (vs:=[.int .i64 (b.all.length:Nat)]) (.obj it (Jz mb (QH (b.sc b.all.length)).length seen)::(A++[.obj l OA,.obj d (.deferred (some []))])) (by rw[Q,<- aw];simp;rfl)
    repeat refine⟨rfl,?_⟩
    refine⟨_,du 0 _ rfl,Sl.any,(Ek _ _).go λ _=>?_⟩;rw[be]
    conv=>whnf
    intro bn cm;refine kj (M':=A++Ba) cm (by rw[Q];exact sublist_cons_self ..) λ Ud dm eb dr ai=>?_;have ai:Zi Ud bn #[.int .i64 (b.fatR r)]:=ai;have a9:N.frz.lg Ud:=⟨λ x o h=>dm x o (L.imm x o h),⟨_,(append_nil _).symm⟩,eb.trans L.tok⟩
    conv=>whnf
    refine Ws (v:=.slice sa sl sc) (cs:=((range r).map b.fatR).map λ n=>.int .i64 n) (new:=[.int .i64 (b.fatR r)]) (M₀:=Ba) DB rfl rfl (by rw[dr];exact Z _) (.inr ⟨_,rfl,ai.rd⟩) rfl (by simp[Value.single]) S3 λ v' M' ah _=>?_;have ah:Acc 51 1 v' (((range (r+1)).map b.fatR).map λ n=>.int .i64 n) M' Ba:=by rw[range_succ];simpa using ah
    obtain⟨ce,H,ae⟩:=ah.split;obtain⟨ta,tl,tc,rfl,-⟩:=ae.src;refine⟨a7,?_⟩
    conv=>whnf
    exact⟨rfl,(r+1,.slice ta tl tc),T1,⟨⟨a9.imm,⟨_,(append_nil _).symm⟩,a9.tok⟩,⟨ce,H,ae⟩,by show r+1<=h.rl;omega⟩,L1⟩
   .obtain⟨q,hq,rfl⟩:=wh hp;have en:q.2<=3125:=Nat.le_trans (an q (mem_of_getElem? hq)) hN;have dy:=(List.getElem?_eq_some_iff.1 hq).1;have ad:=R6 (q:=λ k:WN=>W1 k.1 r) (seen:=seen) hq
    have bc:(seen.push i).toList.Nodup:=by
     rw[Array.toList_push,nodup_append];refine⟨co,S1,λ x hx y hy=>?_⟩;rw[mem_singleton.1 hy];rintro rfl;exact d6 (by simpa using hx)
    have ba:∀j∈(seen.push i).toList,j<(b.sc b.all.length).length:=by
     intro j hj;rw[Array.toList_push,mem_append]at hj;rcases hj with hj|hj
     .exact av j hj
     .rw[mem_singleton.1 hj];exact dy
    have bx:(b.sc b.all.length).length-(seen.push i).size<(b.sc b.all.length).length-seen.size:=by
     have:=H7 bc ba;rw[Array.length_toList,Array.size_push]at this;rw[Array.size_push];omega
    have b0:N.frz.lg ({ Ub with M:=.obj it (Jz mb (QH (b.sc b.all.length)).length (seen.push i))::(A++Ba) }:Qa T):=⟨L.imm,⟨_,(append_nil _).symm⟩,L.tok⟩;generalize cz:({ Ub with M:=.obj it (Jz mb (QH (b.sc b.all.length)).length (seen.push i))::(A++Ba) }:Qa T)=Uc at b0 ⊢;have ap:Uc.M=.obj it (Jz mb (QH (b.sc b.all.length)).length (seen.push i))::(A++Ba):=by rw[<- cz]
    clear cz
    repeat refine⟨rfl,?_⟩
    conv=>whnf
    refine Su (enc:=ZI) (l:=QH (b.sc b.all.length)) rfl (.inr (by rw[ap];exact mem_cons_of_mem _ (mem_append_right _ bb))) (.inr (by rw[ap];exact mem_cons_self ..)) hp ?_
    conv=>whnf
    intro ek c5;refine⟨_,.refl _,rfl,Zt (vs:=QO (W1 q.1.1)) c5 rfl (Tz _) λ Ud dt am=>?_⟩;refine⟨_,⟨rfl,am.rd⟩,?_⟩
    conv=>whnf
    intro el c6;refine⟨_,.refl _,rfl,HR (vs:=QO (W1 q.1.1)) rfl (Tz _) ?_⟩;refine⟨r,⟨rfl,ak⟩,rfl,?_⟩;rw[Nat.mul_one];refine qh (c:=(QO (W1 q.1.1)).toArray) (v:=.bool true) c6 ak rfl λ Ue c0 bq=>?_;rw[UU _ ak]at bq;have am:=am.le c0;have b2:=dt.trans c0;refine⟨_,⟨rfl,am.rd⟩,?_⟩;refine⟨_,⟨rfl,bq.rd⟩,?_⟩
    conv=>whnf
    obtain⟨eT,eh,a1,a2,a3,a4,a5⟩:=Og.h;refine vZ a1 a2 rfl a3 a4 a5 (vs:=QO (W1 q.1.1)) (ws:=QO (HE (W1 q.1.1) r true)) rfl rfl rfl rfl (O_ _) (O_ _) ?_;rw[R5 ak];have cy:=b2.own.trans ap;have b1:N.frz.lg Ue:=b0.trans b2.lg;cases de:W1 q.1.1 r with
    |true=>
     rw[if_pos de]at ad;refine⟨I1,?_⟩
     conv=>whnf
     exact⟨rfl,seen.push i,⟨rfl,rfl,rfl,rfl,rfl,rfl,by rw[ad];rfl,rfl,rfl,rfl,trivial⟩,⟨b1,cy,bc,ba⟩,bx⟩
    |false=>
     rw[if_neg (by rw[de];simp),Nat.add_zero]at ad
     conv=>whnf
     exact⟨rfl,seen.push i,⟨rfl,rfl,rfl,rfl,rfl,rfl,by rw[ad];rfl,rfl,rfl,rfl,trivial⟩,⟨b1,cy,bc,ba⟩,bx⟩
  .have hge:r=b.rs.length:=by simp at hc;omega
   subst hge;have Z:Jw 51 1 (.slice sa sl sc) (b.fatesR.map λ n=>.int .i64 n) A:=Z;refine⟨_,(c3.imI V.imm).sees3 (o:=0) rfl,Nat×Value,λ y=>[(2,.slice sa sl sc),(3,y.2),(6,.pointer (some ⟨P,0,none⟩)),(81,.slice (some ⟨F,0,none⟩) h.cl h.cl),(82,.int .i64 h.cl),(83,.int .i64 y.1)],
    λ y U'=>N.frz.lg U'/\(∃A2,U'.M=A2++(A++Ba)/\Jw 51 1 y.2 (((range y.1).map b.fatC).map λ n=>.int .i64 n) A2)/\y.1<=h.cl,λ y=>h.cl-y.1,(0,.slice none 0 0),T1,⟨V,⟨[],ab,.nil⟩,O1⟩,?_⟩
   rintro⟨i,v⟩f Ub⟨L,⟨A2,Q,K⟩,hi⟩;simp only at K hi;obtain⟨ua,ul,uc,rfl,er⟩:=K.src;have a7:Zu ((i:Int)+1):=I1
   repeat refine⟨rfl,?_⟩
   conv=>whnf
   apply Qe<;>intro hc
   .have bm:i<h.cl:=by simpa using hc
    have d7:=Za (U:=Ub) (b:=F) (e:=3) (vs:=Wf b b.all.length 0) (A2++A++[.obj l OA,.obj d (.deferred (some [])),.obj P (.cells #[.int .i64 (b.all.length:Nat)] 3 (0,0))]) (by rw[Q,<- aw];simp;rfl);have ak:=Za (U:=Ub) (b:=P) (e:=3) (vs:=[.int .i64 (b.all.length:Nat)]) (A2++A++[.obj l OA,.obj d (.deferred (some []))]) (by rw[Q,<- aw];simp;rfl);have ag:=GY (b:=b) (k:=b.all.length) (i:=0) (j:=i) O1;rw[if_neg O1]at ag
    have cr:Ub.sees ((Addr.mk F 0 none).add (i*1)) (.int .i64 (b.wc b.all.length i:Nat)):=by
     rw[Nat.mul_one];exact d7 i _ ag
    have be:H9 (b.wc b.all.length i) b.all.length=b.fatC i:=by unfold Bk.wc;rw[take_length];rfl
    refine⟨⟨F,0,none⟩,i,⟨rfl,rfl,bm⟩,_,cr,_,ak 0 _ rfl,Sl.any,(Ek _ _).go λ _=>?_⟩;rw[be]
    conv=>whnf
    intro bn cm;refine Zk cm λ Ud hd ai=>?_;have ai:Zi Ud bn #[.int .i64 (b.fatC i)]:=ai;have a9:=L.trans hd.lg
    conv=>whnf
    refine Ws (v:=.slice ua ul uc) (cs:=((range i).map b.fatC).map λ n=>.int .i64 n) (new:=[.int .i64 (b.fatC i)]) (M₀:=A++Ba) DB rfl rfl (by rw[hd.own,Q];exact K _) (.inr ⟨_,rfl,ai.rd⟩) rfl (by simp[Value.single]) S3 λ v' M' ah _=>?_;have ah:Acc 51 1 v' (((range (i+1)).map b.fatC).map λ n=>.int .i64 n) M' (A++Ba):=by rw[range_succ];simpa using ah
    obtain⟨ce,H,ae⟩:=ah.split;obtain⟨ta,tl,tc,rfl,-⟩:=ae.src;refine⟨a7,?_⟩
    conv=>whnf
    exact⟨rfl,(i+1,.slice ta tl tc),T1,⟨⟨a9.imm,⟨_,(append_nil _).symm⟩,a9.tok⟩,⟨ce,H,ae⟩,by show i+1<=h.cl;omega⟩,L1⟩
   .have hge:i=b.cs.length:=by simp at hc;omega
    subst hge;have K:Jw 51 1 (.slice ua ul uc) (b.fatesC.map λ n=>.int .i64 n) A2:=K;subst aw;refine⟨A2++(A++([.obj l OA,.obj d (.deferred none),.obj P (.cells #[.int .i64 (b.all.length:Nat)] 3 (0,0)),.obj F (.cells (Wf b b.all.length 0).toArray 3 (0,0)),.obj mb (Qt ZI (QH (b.sc b.all.length)))]++U.M)),by rw[Q];exact PN (PN (.there .here) _) _,?_⟩
    conv=>whnf
    exact⟨_,_,_,_,rfl,K _,Z _,λ x o hx=>L.imm x o (cv x o hx),L.tok.trans dg⟩
 .exact λ _ _ _ _ _ h=>h.elim
 simp_all
end Go.Proofs
namespace Go.TM
variable{T:Type}{P:Program}{S:Sys P T}{U:Qa T}
def Jd.nil:Jd U (.slice none 0 0) []:=⟨none,0,rfl,rfl,λ i x h=>by simp at h⟩
def BH.zero:BH:=⟨none,0,0,none,0,0⟩
def Bk.askF(b:Bk)(r:Int):Int:=if b.flaw Qu=0 then(if btw r 0 (b.nr-1)then 0 else 6)else b.flaw Qu
def Bk.askF_ok{b:Bk}{r:Int}(h:b.askF r=0):b.Ok/\0<=r/\r<b.nr:=by
 unfold Bk.askF at h;split at h
 .rename_i h1;split at h
  .rename_i h2;simp only[btw,Bool.and_eq_true,decide_eq_true_eq]at h2;exact⟨Bk.ok_of h1,O1,O1⟩
  .cases h
 simp_all
end Go.TM
namespace Go.Proofs
open Go.TM
variable{T:Type}{S:TM.Sys prog T}{U:Qa T}
attribute [local irreducible] Qb Zl Wt
def yC(h:BH)(b:Bk)(N:Zq U.frz h b)(Z:WA U):Qb S 26 #[h.v] (λ v U'=>(∃w z,v=.tuple #[w,z,.int .i64 (b.flaw Qu)]/\Jd U'.frz w (if b.flaw Qu=0 then b.fatesR else[])/\Jd U'.frz z (if b.flaw Qu=0 then b.fatesC else[]))/\U.le U') U:=by
 refine Qb.grown (R:=λ v U'=>∃w z,v=.tuple #[w,z,.int .i64 (b.flaw Qu)]/\Jd U' w (if b.flaw Qu=0 then b.fatesR else[])/\Jd U' z (if b.flaw Qu=0 then b.fatesC else[])) (λ v M T Q⟨w,z,e,G,H⟩=>⟨w,z,e,G.lg Q,H.lg Q⟩) (Qb.of (args:=[_]) Fj Qf S1 ?_)
 repeat refine⟨rfl,?_⟩
 conv=>whnf
 intro B M f F;have F:Zi M B #[.slice h.ra h.rl h.rc,.slice h.ca h.cl h.cc]:=F;refine⟨_,⟨rfl,F.rd⟩,?_⟩;refine⟨VA.any,(O4 h b ((N.lg f.lg.frz2).lg Qp) (Z.lg f.lg)).go λ _=>?_⟩
 repeat refine⟨rfl,?_⟩
 conv=>whnf
 apply Qe<;>intro P
 .have E:b.flaw Qu≠0:=by simpa using P
  repeat refine⟨rfl,?_⟩
  conv=>whnf
  rw[if_neg E,if_neg E];exact⟨⟨_,_,rfl,.nil,.nil⟩,f.lg⟩
 have E:b.flaw Qu=0:=by simpa using P
 rw[if_pos E,if_pos E,E];refine⟨_,⟨rfl,F.rd⟩,?_⟩;refine⟨S6.any,(UO h b (N.lg f.lg.frz2) (Bk.ok_of E)).mono ?_⟩;rintro _ T⟨⟨w,z,rfl,K,L⟩,I⟩-;obtain⟨V,X,rfl,G⟩:=K;obtain⟨W,Y,rfl,H⟩:=L
 repeat refine⟨rfl,?_⟩
 conv=>whnf
 exact⟨⟨_,_,rfl,⟨V,X,rfl,G⟩,⟨W,Y,rfl,H⟩⟩,(f.trans I).lg⟩
def Kb(h:BH)(b:Bk)(K:Zq U.frz h b)(W:WA U)(r:Int):Qb S 79 #[h.v,.int .i64 r] (λ v U'=>v=.tuple #[(if b.askF r=0 then h else BH.zero).v,.int .i64 (b.askF r)]/\U'=U) U:=by
 refine Qb.pure' (Qb.of (args:=[_,_]) PL Qf S1 ?_);have M:=K.rs.1;have Q:=K.rl;have L:b.nr=(h.rl:Int):=by unfold Bk.nr;rw[M]
 repeat refine⟨rfl,?_⟩
 conv=>whnf
 intro B T e H;have H:Zi T B #[.slice h.ra h.rl h.rc,.slice h.ca h.cl h.cc]:=H
 conv=>whnf
 intro G E;refine⟨_,.refl _,?_⟩;have z:=H.lg (Z4 G (.cells #[.slice none 0 0,.slice none 0 0] 86));refine⟨_,⟨rfl,z.rd⟩,?_⟩;refine⟨VA.any,(O4 h b (((K.lg e.lg.frz2).lg Qp).lg (Z4 G _)) ((W.lg e.lg).lg (Z4 G _))).go λ _=>?_⟩
 repeat refine⟨rfl,?_⟩
 conv=>whnf
 apply Qe<;>intro P
 .have F:b.flaw Qu≠0:=by simpa using P
  have I:b.askF r=b.flaw Qu:=by unfold Bk.askF;rw[if_neg F]
  rw[I,if_neg F];refine⟨rfl,Zt (vs:=[.slice none 0 0,.slice none 0 0]) E rfl (by simp[Value.single]) λ N f w=>?_⟩;refine⟨_,⟨rfl,w.rd⟩,?_⟩
  conv=>whnf
  exact⟨rfl,(e.trans f).lg⟩
 have F:b.flaw Qu=0:=by simpa using P
 have I:b.askF r=if btw r 0 ((h.rl:Int)-1)then 0 else 6:=by unfold Bk.askF;rw[if_pos F,L]
 rw[I];refine⟨_,z.sees3 (o:=0) rfl,I1,?_⟩;refine⟨GG.any,(Wu _ _ _ _).go λ _=>?_⟩;cases V:btw r 0 ((h.rl:Int)-1)with
 |false=>
  refine⟨rfl,Zt (vs:=[.slice none 0 0,.slice none 0 0]) E rfl (by simp[Value.single]) λ N f w=>?_⟩;refine⟨_,⟨rfl,w.rd⟩,?_⟩
  conv=>whnf
  exact⟨rfl,(e.trans f).lg⟩
 |true=>
  refine⟨_,⟨rfl,z.rd⟩,?_⟩;refine⟨rfl,Zt (vs:=[.slice h.ra h.rl h.rc,.slice h.ca h.cl h.cc]) E rfl (by simp[Value.single]) λ N f w=>?_⟩;refine⟨_,⟨rfl,w.rd⟩,?_⟩
  conv=>whnf
  exact⟨rfl,(e.trans f).lg⟩
def Kj(h:BH)(b:Bk)(N:Zq U.frz h b)(z:b.Ok)(r:Nat)(P:r<b.rs.length):Qb S 88 #[h.v,.int .i64 r] (λ v U'=>v=.int .i64 (b.fatR r)/\U'=U) U:=by
 refine Qb.pure' (Qb.of (args:=[_,_]) Gi Qf S1 ?_)
 repeat refine⟨rfl,?_⟩
 conv=>whnf
 intro B K e f;have f:Zi K B #[.slice h.ra h.rl h.rc,.slice h.ca h.cl h.cc]:=f;refine⟨_,⟨rfl,f.rd⟩,?_⟩;refine⟨S6.any,(UO h b (N.lg e.lg.frz2) z).mono ?_⟩;rintro _ T⟨⟨v1,v2,rfl,E,F⟩,w⟩-;obtain⟨V,X,rfl,M⟩:=E;obtain⟨W,Y,rfl,Z⟩:=F;have I:b.fatesR.length=b.rs.length:=by simp[Bk.fatesR]
 obtain⟨L,x,G,rfl,-,Q⟩:=M.at (show r<b.fatesR.length by omega)
 have H:x=b.fatR r:=by
  unfold Bk.fatesR at G;rw[getElem?_map,getElem?_range P]at G;exact(Option.some.inj G).symm
 subst H
 repeat refine⟨rfl,?_⟩
 refine⟨L,r,⟨rfl,rfl,O1⟩,_,Q.lg Qp,?_⟩
 repeat refine⟨rfl,?_⟩
 conv=>whnf
 exact(e.trans w).lg
end Go.Proofs
namespace Go.TM
variable{T:Type}{P:Program}{S:Sys P T}{U:Qa T}
def WQ(U:Qa T)(v:Value)(l:List Bool):Prop:=∃a cap,v=.slice a l.length cap/\∀(i:Nat)x,l[i]?=some x->∃b,a=some b/\b.spot=none/\U.sees (b.add (i*1)) (.bool x)
def WQ.lg{U':Qa T}{v:Value}{l:List Bool}(h:WQ U v l)(k:U.lg U'):WQ U' v l:=let ⟨a,c,e,h⟩:=h;⟨a,c,e,λ i x b=>let ⟨ad,e',s,r⟩:=h i x b;⟨ad,e',s,r.lg k⟩⟩
def WQ.nil:WQ U (.slice none 0 0) []:=⟨none,0,rfl,λ i x h=>by simp at h⟩
def Rq{a:Option Addr}{l:List Bool}{cap:Nat}(h:QS U a (l.map .bool))(e:∀b,a=some b->b.spot=none):WQ U (.slice a l.length cap) l:=by
 refine⟨a,cap,rfl,λ i x w=>?_⟩;rcases h with⟨_,z⟩|⟨b,rfl,f⟩
 .simp_all
 .exact⟨b,rfl,e b rfl,by rw[Nat.mul_one];exact f i _ (by simp[w])⟩
def Zi.bools{b:Nat}{c:Array Value}{l:List Bool}{cap:Nat}(h:Zi U b c)(e:∀(i:Nat)(x:Bool),l[i]?=some x->c[i]?=some (.bool x)):WQ U (.slice (some ⟨b,0,none⟩) l.length cap) l:=
 ⟨_,_,rfl,λ i x f=>⟨_,rfl,rfl,by rw[Nat.mul_one,Qo];exact h.sees (by grind)⟩⟩
def Bk.ordL_cons(b:Bk)(o:List Nat)(i:Int)(l:List Int):b.ordL o (i::l)=if btw i 0 (b.nc-1)then(if i.toNat∈o then 5 else if(Je b.A i.toNat).all (λ k=>o.contains k)then b.ordL (o++[i.toNat]) l else 7)else 6:=rfl
def Bk.outF(b:Bk)(l:List Int):Int:=if b.flaw Qu=0 then b.ordF l else b.flaw Qu
def wj(w:List Bool):((range w.length).map λ k=>Value.bool ((J2 w).testBit k))=w.map .bool:=by
 apply ext_getElem?;intro i;rw[getElem?_map,getElem?_map];by_cases h:i<w.length
 .rw[getElem?_range h,getElem?_eq_getElem h];simp[GV,getD_eq_getElem?_getD,getElem?_eq_getElem h]
 .rw[getElem?_eq_none S3,getElem?_eq_none O1];rfl
def Qb.lists2g{f:FuncId}{args:Array Value}{e:Nat}{cs:List Value}{R:Value->Qa T->Prop}{rest:List Value}(W:∀v K L,K.lg L->R v K->R v L)
  (h:Qb S f args (λ v U'=>∃w H A,v=.tuple (w::H::rest).toArray/\R w U'.frz/\Acc e 1 H cs U'.M (A++U.M)/\(∀x P,U.I x=some P->U'.I x=some P)/\U'.tok=U.tok) U) :
  Qb S f args (λ v U'=>(∃w a len cap,v=.tuple (w::.slice a len cap::rest).toArray/\R w U'.frz/\cs.length=len/\QS U'.frz a cs/\∀N,a=some N->N.spot=none)/\U.le U') U:=by
 refine h.sep λ v U' X⟨w,H,A,Z,Q,F,V,Y⟩=>?_;obtain⟨M',b,F⟩:=F.letgo;obtain⟨z,k1,E,a,len,cap,rfl,hl,B,G,_⟩:=F.freeze (U:={ U' with M:=U.M }) (U':={ U' with M:=M' }) (X.sublist b) (λ _ _ h=>h) rfl;have hz:U'.frz.lg z.frz:=⟨E.imm,⟨[],rfl⟩,E.tok⟩;exact⟨z,(Z1 b).trans k1,⟨w,a,len,cap,Z,W _ _ _ hz Q,O1,B,G⟩,⟨λ x o h=>E.imm x o (V x o h),E.own,E.tok.trans Y⟩⟩
end Go.TM
namespace Go.Proofs
open Go.TM
variable{T:Type}{S:TM.Sys prog T}{U:Qa T}
attribute [local irreducible] Qb Zl Wt
set_option maxHeartbeats 1000000 in
def IR(h:BH)(b:Bk)(hb:Zq U.frz h b)(hk:WA U)(a:Option Addr)(len cap:Nat)(l:List Int)(hl:Z5 U.frz a len l)(cx:len<2^60) :
  Qb S 21 #[h.v,.slice a len cap] (λ v U'=>(∃v1 v2,v=.tuple #[v1,v2,.int .i64 (b.outF l)]/\WQ U'.frz v1 (if b.outF l=0 then(b.ends (l.map Int.toNat)).1 else[])/\WQ U'.frz v2 (if b.outF l=0 then(b.ends (l.map Int.toNat)).2 else[]))/\U.le U') U:=by
 refine(Qb.lists2g (e:=4) (cs:=(if b.outF l=0 then(b.ends (l.map Int.toNat)).2 else[]).map .bool) (R:=λ v U'=>WQ U' v (if b.outF l=0 then(b.ends (l.map Int.toNat)).1 else[])) (rest:=[.int .i64 (b.outF l)]) (λ v U1 U2 hl h=>h.lg hl) (Qb.of (args:=[_,_]) YQ Qf S1 ?_)).post λ v U'⟨⟨v1,a,len,cap,e,h1,h2,h3,h4⟩,H⟩=>⟨U',.refl _,⟨v1,_,e,h1,by rw[length_map]at h2;rw[<- h2];exact Rq h3 h4⟩,H⟩;have cg:=hb.cs.1;have c4:=hb.rs.1;have c2:=hl.1
 repeat refine⟨rfl,?_⟩
 conv=>whnf
 intro B U1 L hB;have hB:Zi U1 B #[.slice h.ra h.rl h.rc,.slice h.ca h.cl h.cc]:=hB;refine⟨_,⟨rfl,hB.rd⟩,?_⟩;refine⟨VA.any,(O4 h b ((hb.lg L.lg.frz2).lg Qp) (hk.lg L.lg)).go λ _=>?_⟩
 repeat refine⟨rfl,?_⟩
 conv=>whnf
 apply Qe<;>intro hc
 .have hf:b.flaw Qu≠0:=by simpa using hc
  have hF:b.outF l=b.flaw Qu:=by unfold Bk.outF;rw[if_neg hf]
  rw[hF,if_neg hf,if_neg hf]
  repeat refine⟨rfl,?_⟩
  conv=>whnf
  exact⟨_,_,[],rfl,.nil,by rw[L.own];exact .nil,L.imm,L.tok⟩
 have hf:b.flaw Qu=0:=by simpa using hc
 have hF:b.outF l=b.ordF l:=by unfold Bk.outF;rw[if_pos hf]
 have ap:=Bk.ok_of hf;have c3:=ap.nc;have ct:=ap.nr;rw[hF];refine⟨_,hB.sees3 (o:=1) rfl,?_⟩
 repeat refine⟨rfl,?_⟩
 conv=>whnf
 apply Qe<;>intro hc
 .have hne:l.length≠b.cs.length:=by simp at hc;omega
  have a7:b.ordF l=2:=by unfold Bk.ordF;rw[if_pos hne]
  rw[a7]
  repeat refine⟨rfl,?_⟩
  conv=>whnf
  exact⟨_,_,[],rfl,.nil,by rw[L.own];exact .nil,L.imm,L.tok⟩
 have c0:l.length=b.cs.length:=by simp at hc;omega
 have a7:b.ordF l=b.ordL [] l:=by unfold Bk.ordF;rw[if_neg O1]
 rw[a7];refine⟨_,⟨rfl,hB.rd⟩,?_⟩
 conv=>whnf
 intro b8 ck;refine⟨_,.refl _,rfl,Zt (vs:=[.slice h.ra h.rl h.rc,.slice h.ca h.cl h.cc]) ck rfl (by simp[Value.single]) λ U2 bg bi=>?_⟩;have z:=L.trans bg;refine⟨_,⟨rfl,bi.rd⟩,?_⟩;refine⟨YJ.any,(IH h b ((hb.lg z.lg.frz2).lg Qp) ct).go λ _=>?_⟩;have cu:J2 b.ini.2=0:=Ff _
 conv=>whnf
 intro b9 c1;refine⟨_,.refl _,rfl,HR (vs:=QT (.slice none 0 0) (W1 b.ini.1) 0) rfl (by simp[QT,Value.single]) ?_⟩;have b1:Zi U2 B #[.slice h.ra h.rl h.rc,.slice h.ca h.cl h.cc]:=hB.le bg;have ah:U.frz.lg U2.frz:=z.lg.frz2
 refine⟨Nat×Option Addr×Nat,λ y=>[(1,.slice a len cap),(2,.pointer (some ⟨B,0,none⟩)),(8,.pointer (some ⟨b8,0,none⟩)),(9,.pointer (some ⟨b9,0,none⟩)),(28,.slice a len cap),(29,.int .i64 len),(30,.int .i64 y.1)],
  λ y U'=>U2.frz.lg U'/\U'.M=.obj b9 (.cells (QT (.slice y.2.1 y.1 y.2.2) (W1 (b.ends ((l.take y.1).map Int.toNat)).1) (J2 (b.ends ((l.take y.1).map Int.toNat)).2)).toArray 91 (0,0))::U.M/\y.1<=len/\Z5 U'.frz y.2.1 y.1 (((l.take y.1).map Int.toNat).map λ(k:Nat)=>(k:Int))/\y.1<=y.2.2/\(∀ad,y.2.1=some ad->ad.spot=none)/\(∀k∈(l.take y.1).map Int.toNat,k<b.cs.length)/\b.ordL [] l=b.ordL ((l.take y.1).map Int.toNat) (l.drop y.1),
  λ y=>len-y.1,(0,none,0),T1,⟨⟨λ _ _ h=>h,⟨_,(append_nil _).symm⟩,rfl⟩,?_,O1,⟨rfl,λ i x K=>by simp at K⟩,Nat.le_refl _,S1,S1,rfl⟩,?_⟩
 .show _::U2.M=_;rw[z.own];show _=Qx.obj b9 (.cells (QT (.slice none 0 0) (W1 b.ini.1) (J2 b.ini.2)).toArray 91 (0,0))::U.M;rw[cu]
 rintro⟨i,xa,xc⟩f U3⟨Q,hM,hi,am,bt,bu,V,w⟩;simp only at hM hi am bt bu V w;have co:Zu ((i:Int)+1):=I1
 have an:Zi U3 B #[.slice h.ra h.rl h.rc,.slice h.ca h.cl h.cc]:=b1.imI Q.imm;have bj:Zi U3 b8 #[.slice h.ra h.rl h.rc,.slice h.ca h.cl h.cc]:=bi.imI Q.imm;have ae:=Za [] hM;have ak:((l.take i).map Int.toNat).length=i:=by rw[length_map,length_take];omega
 have bd:∀n∈((l.take i).map Int.toNat).map (λ(k:Nat)=>(k:Int)),0<=n/\n<60:=by
  intro n hn;obtain⟨k,hk,rfl⟩:=mem_map.1 hn;have:=V k hk;omega
 repeat refine⟨rfl,?_⟩
 conv=>whnf
 apply Qe<;>intro hc
 .have hlt:i<len:=by simpa using hc
  obtain⟨ad,n,K,rfl,c5,hs⟩:=((hl.lg (ah.trans Q.frz2)).lg Qp).at hlt;rw[WT K,b.ordL_cons]at w;refine⟨ad,i,⟨rfl,rfl,hlt⟩,_,hs,_,an.sees3 (o:=1) rfl,I1,?_⟩;refine⟨GG.any,(Wu _ _ _ _).go λ _=>?_⟩;have bo:b.nc=(h.cl:Int):=by unfold Bk.nc;rw[cg]
  rw[bo]at w
  have bad:∀(ab:Qa T)(F:Int),U3.le ab->F≠0->b.ordL [] l=F->∃v1 v2 A,Value.tuple #[.slice none 0 0,.slice none 0 0,.int .i64 F]=.tuple (v1::v2::[Value.int .i64 (b.ordL [] l)]).toArray/\WQ ab.frz v1 (if b.ordL [] l=0 then(b.ends (l.map Int.toNat)).1 else[])/\Acc 4 1 v2 ((if b.ordL [] l=0 then(b.ends (l.map Int.toNat)).2 else[]).map .bool) ab.M (A++U.M)/\(∀x ox,U.I x=some ox->ab.I x=some ox)/\ab.tok=U.tok:=by
   intro ab F h3 h0 e;rw[e,if_neg h0,if_neg h0];exact⟨_,_,[_],rfl,.nil,by rw[h3.own,hM];exact .nil,λ x o K=>h3.imm x o (Q.imm x o (z.imm x o K)),h3.tok.trans (Q.tok.trans z.tok)⟩
  cases a8:btw n 0 ((h.cl:Int)-1)with
  |false=>
   rw[a8]at w;have:=bad _ 6 (.refl _) D1 w
   repeat refine⟨rfl,?_⟩
   conv=>whnf
   exact this
  |true=>
  rw[if_pos a8]at w
  have cr:0<=n/\n<h.cl:=by
   simp only[btw,Bool.and_eq_true,decide_eq_true_eq]at a8;omega
  obtain⟨k,rfl⟩:=Int.eq_ofNat_of_zero_le cr.1;rw[Int.toNat_natCast]at w;have bl:k<h.cl:=O1
  have a9:(((l.take i).map Int.toNat).map λ(k:Nat)=>(k:Int)).contains (k:Int)=decide (k∈(l.take i).map Int.toNat):=by
   rw[Bool.eq_iff_iff,contains_iff_mem,decide_eq_true_eq,mem_map];constructor
   .rintro⟨k',h1,h2⟩
    rwa [<- Int.ofNat.inj h2]
   .exact λ h=>⟨k,h,rfl⟩
  refine⟨_,ae.cell (i:=0) rfl,OH.any,(UT xa i xc _ (am.lg Qp) O1 (k:Int)).go λ _=>?_⟩;rw[a9];by_cases Z:k∈(l.take i).map Int.toNat
  .rw[if_pos Z]at w;rw[decide_eq_true Z];have:=bad _ 5 (.refl _) D1 w
   repeat refine⟨rfl,?_⟩
   conv=>whnf
   exact this
  rw[if_neg Z]at w;rw[decide_eq_false Z];obtain⟨b0,c,ga,gl,gc,aa,al,ac,ch,cj,cy,bq,-,-,ha,b3,bm⟩:=(hb.lg (ah.trans Q)).case bl;have W:=ap.toLow.lt bm;have b4:=Bk.aft1_at ch;have ao:=λ U'(H:U3.le U')=>Ja (S:=S) (U:=U') aa al ac c.af (ha.lg H.lg) b3 W;have P:=Ja (S:=S) (U:=U3) xa i xc _ (am.lg Qp) O1 bd;rw[TD]at P;have b6:Z7 (c.af.map Int.toNat)<2^60:=Hz (toNat_lt W);have ce:Z7 ((l.take i).map Int.toNat)<2^60:=Hz λ x K=>by have:=V x K;omega
  have key:_↔(Je b.A k).all (λ k=>(Z7 ((l.take i).map Int.toNat)).testBit k)=true:=(Of b6 ce).trans ((OO W).trans (by rw[b4]))
  have bz:(Je b.A k).all (λ j=>(Z7 ((l.take i).map Int.toNat)).testBit j)=(Je b.A k).all λ j=>((l.take i).map Int.toNat).contains j:=by
   congr 1;funext j;exact Wz _ j
  rw[bz]at key;refine⟨_,an.sees3 (o:=1) rfl,b0,k,⟨cj,rfl,bl⟩,_,bq.cell (i:=3) rfl,.int .i64 (Z7 (c.af.map Int.toNat):Nat),λ U' H _=>?_,?_⟩
  .refine⟨XT.any,(ao U' H).mono ?_⟩;rintro _ cz⟨rfl,hU⟩-;exact⟨rfl,_,.refl _,hU▸.refl _⟩
  refine⟨_,ae.cell (i:=0) rfl,?_⟩
  conv=>whnf
  intro U4 G _;have ai:=Q.trans G.lg;have be:=G.own.trans hM;have bp:=Za [] be
  conv=>whnf
  have P:=Ja (S:=S) (U:=U4) xa i xc _ ((am.lg G.lg.frz2).lg Qp) O1 bd;rw[TD]at P;refine⟨XT.any,P.go λ _=>?_⟩
  repeat refine⟨rfl,?_⟩
  conv=>whnf
  apply Qe<;>intro hc
  .have hno:(Je b.A k).all (λ j=>((l.take i).map Int.toNat).contains j)=false:=by
    cases hh:(Je b.A k).all (λ j=>((l.take i).map Int.toNat).contains j)with
    |false=>rfl
    |true=>exact absurd (key.2 hh) (bne_iff_ne.1 hc)
   rw[hno]at w;have:=bad _ 7 G D1 w
   repeat refine⟨rfl,?_⟩
   conv=>whnf
   exact this
  have bw:(Je b.A k).all (λ j=>((l.take i).map Int.toNat).contains j)=true:=key.1 (bne_eq_false_iff_eq.1 hc);rw[if_pos bw]at w;have E:=b.ends_len ((l.take i).map Int.toNat);have b2:Zi U4 b8 #[.slice h.ra h.rl h.rc,.slice h.ca h.cl h.cc]:=bj.le G;have bb:(l.take (i+1)).map Int.toNat=(l.take i).map Int.toNat++[k]:=by rw[Ji K,map_append];rfl
  have cw:i<5:=O1
  have aw:=LB (S:=S) (U:=U4) h b ((hb.lg (ah.trans ai.frz2)).lg Qp) ap xa xc ((l.take i).map Int.toNat) (b.ends ((l.take i).map Int.toNat)) (by rw[ak];exact(am.lg G.lg.frz2).lg Qp) bu (by rw[ak];exact bt) (by rw[ak];omega) E.1 E.2 k O1;rw[ak,<- b.ends_snoc,<- bb]at aw;refine⟨_,⟨rfl,b2.rd⟩,?_⟩;refine⟨_,⟨rfl,bp⟩,T_.any,aw.mono ?_⟩;rintro _ U5⟨⟨a',c',rfl,a6,a0,bv⟩,bh⟩-;have aj:=ai.trans bh.lg;have bf:=bh.own.trans be;have ax:((l.take (i+1)).map Int.toNat).length=i+1:=by rw[length_map,length_take];omega
  rw[ax]at a6 a0;refine⟨rfl,Wh (vs:=QT (.slice a' ((l.take (i+1)).map Int.toNat).length c') (W1 (b.ends ((l.take (i+1)).map Int.toNat)).1) (J2 (b.ends ((l.take (i+1)).map Int.toNat)).2)) [] bf rfl (by simp[QT,Value.single]) λ U6 au az av=>?_⟩;rw[ax]at av;have ba:U2.frz.lg U6:=⟨λ x o K=>by rw[au];exact aj.imm x o K,⟨_,(append_nil _).symm⟩,az.trans aj.tok⟩;have bx:U5.frz.lg U6.frz:=⟨λ x o K=>by show U6.I x=_;rw[au];exact K,⟨[],rfl⟩,az⟩;refine⟨co,rfl,(i+1,a',c'),T1,⟨ba,av,by show i+1<=len;omega,a6.lg bx,a0,bv,?_,by rw[bb];exact w⟩,L1⟩;intro x ag;rw[bb,mem_append]at ag;rcases ag with ag|ag
  .exact V x ag
  .rw[mem_singleton.1 ag];omega
 .have hge:i=l.length:=by simp at hc;omega
  subst hge;rw[drop_length]at w;have hz:b.ordL [] l=0:=w;rw[take_length]at hM ae ak V;rw[hz,if_pos rfl,if_pos rfl];have E:=b.ends_len (l.map Int.toNat);generalize b.ends (l.map Int.toNat)=e at hM ae E;obtain⟨e1,e2⟩:=e;simp only at hM ae E;obtain⟨h1,h2⟩:=E;have bs:J2 e2<2^60:=Nat.lt_trans (Sb e2 (m:=5) O1) D1;refine⟨_,an.sees3 (o:=0) rfl,_,ae.cell (i:=7) rfl,_,an.sees3 (o:=1) rfl,?_⟩
  conv=>whnf
  obtain⟨eT,cv,a1,a2,a3,a4,a5⟩:=Og.h;refine⟨λ v U'=>v=.slice (some ⟨b9,1,none⟩) h.rl 6,λ v _ _ X _=>X,λ U' H hC=>?_,λ v X=>?_⟩
  .conv=>whnf
   refine qd (b:=b9) (o:=1) (n:=h.rl) (N:=6) a1 a3 rfl rfl O1 ?_;exact⟨_,.refl _,rfl,.refl _⟩
  obtain⟨_,-,-,rfl⟩:=X;refine⟨λ v U'=>WQ U'.frz v e1,λ v U1 U2 X H=>X.lg H.lg.frz2,λ U' H hC=>?_,λ v X=>?_⟩
  .have hrd':=Za [] (H.own.trans hM)
   have br:QS U' (some ⟨b9,1,none⟩) (e1.map .bool):=.inr ⟨_,rfl,λ i v X=>by
    rw[getElem?_map]at X;cases K:e1[i]? with
    |none=>rw[K]at X;cases X
    |some x=>
     rw[K]at X;cases X;have bk:i<6:=by have:=(List.getElem?_eq_some_iff.1 K).1;omega
     have h3:(QO (W1 e1))[i]?=some (.bool x):=by
      rw[Uj _ bk];simp[W1,getD_eq_getElem?_getD,K]
     have h4:=hrd' (1+i) (.bool x) (by
      rcases Gt bk with rfl|rfl|rfl|rfl|rfl|rfl <;> exact h3)
     rw[Qo]at h4 ⊢
     rwa [Nat.zero_add]at h4⟩
   conv=>whnf
   refine UK (sa:=none) (sl:=0) (cs:=[]) (new:=e1.map .bool) Mm rfl rfl (.inl ⟨rfl,rfl⟩) rfl br (by rw[length_map];omega) (by rw[length_map,length_nil];omega) (λ h0=>?_) (λ _ bn cn bc cm cq c6 cf=>?_)
   .have:e1=[]:=by simpa using h0
    subst this;exact⟨_,.refl _,.nil,.refl _⟩
   .refine Zk cm λ U1 cp b7=>⟨?_,cp⟩;have b5:Zi U1.frz bn cn:=b7;have:=b5.bools (l:=e1) (cap:=bc) (λ i x K=>cf i _ (by simp[K]));rw[Nat.zero_add,show h.rl=e1.length by omega];exact this
  obtain⟨_,-,-,va,vc,rfl,-⟩:=X
  conv=>whnf
  intro U4 G hC;obtain⟨-,X⟩:=hC;refine⟨Lx.any,(Bl (J2 e2) h.cl bs O1).mono ?_⟩;rintro v U5⟨Y,aq,ay⟩-;rw[show h.cl=e2.length by omega,wj]at Y;obtain⟨ta,tl,tc,rfl,-,-⟩:=Acc.src (U:=U5) Y;rw[G.own,hM]at Y
  repeat refine⟨rfl,?_⟩
  conv=>whnf
  exact⟨_,_,[_],rfl,X.lg ⟨aq,⟨[],rfl⟩,ay⟩,Y,λ x o K=>aq x o (G.imm x o (Q.imm x o (z.imm x o K))),ay.trans (G.tok.trans (Q.tok.trans z.tok))⟩
end Go.Proofs
namespace Go.TM
variable{T:Type}{P:Program}{S:Sys P T}{U:Qa T}
def Qa.on_of{A D:Qx}{M:List Qx}(h:U.M=A::D::M):U=({ U with M:=M }:Qa T).on A D:=by
 obtain⟨i,m,t⟩:=U;simp only[Qa.on]at h ⊢;rw[h]
def Bk.dfO(b:Bk)(r k:Nat)(w:Bool):Option (List Nat):=(b.all.take k).find? λ o=>(b.ends o).1.getD r false==w
def Bk.dfO_succ{b:Bk}{r k:Nat}{w:Bool}{o:List Nat}(h:b.all[k]?=some o):b.dfO r (k+1) w=(b.dfO r k w).or (if(b.ends o).1.getD r false==w then some o else none):=by
 unfold Bk.dfO;rw[Ji h,find?_append,find?_singleton]
def Bk.dfO_end(b:Bk)(r:Nat)(w:Bool):(b.dfO r b.all.length w).getD []=b.difS r w:=by grind[Bk.dfO,Bk.difS,take_length]
def QQ(o:Option (List Nat)):List Int:=(o.getD []).map λ(k:Nat)=>(k:Int)
end Go.TM
namespace Go.Proofs
open Go.TM
variable{T:Type}{S:TM.Sys prog T}{U:Qa T}
attribute [local irreducible] Qb Zl Wt
set_option maxHeartbeats 1000000 in
def pv(h:BH)(b:Bk)(hb:Zq U.frz h b)(hk:WA U)(r:Int) :
  Qb S 29 #[h.v,.int .i64 r] (λ v U'=>(∃v1 v2,v=.tuple #[v1,v2,.int .i64 (b.askF r)]/\Jd U'.frz v1 (if b.askF r=0 then(b.difS r.toNat true).map λ(k:Nat)=>(k:Int)else[])/\Jd U'.frz v2 (if b.askF r=0 then(b.difS r.toNat false).map λ(k:Nat)=>(k:Int)else[]))/\U.le U') U:=by
 refine Qb.grown (R:=λ v U'=>∃v1 v2,v=.tuple #[v1,v2,.int .i64 (b.askF r)]/\Jd U' v1 (if b.askF r=0 then(b.difS r.toNat true).map λ(k:Nat)=>(k:Int)else[])/\Jd U' v2 (if b.askF r=0 then(b.difS r.toNat false).map λ(k:Nat)=>(k:Int)else[])) (λ v U1 U2 V⟨v1,v2,e,h1,h2⟩=>⟨v1,v2,e,h1.lg V,h2.lg V⟩) (Qb.of (args:=[_,_]) Lv Qf S1 ?_);have br:=hb.rs.1
 repeat refine⟨rfl,?_⟩
 conv=>whnf
 intro B U1 bf hB;have hB:Zi U1 B #[.slice h.ra h.rl h.rc,.slice h.ca h.cl h.cc]:=hB
 conv=>whnf
 intro b3 U2 a7 ad;have ad:Zi U2 b3 #[.int .i64 r]:=ad
 conv=>whnf
 intro b4 bn;refine⟨_,.refl _,?_⟩
 conv=>whnf
 intro b5 bo;refine⟨_,.refl _,?_⟩;have f:=bf.trans a7;have L:U2.lg ((U2.put b4 (.cells #[.slice none 0 0] 26)).put b5 (.cells #[.slice none 0 0] 26)):=(Z4 b4 _).trans (Z4 b5 _);refine⟨_,⟨rfl,((hB.le a7).lg L).rd⟩,?_⟩;refine⟨_,(ad.lg L).sees3 (o:=0) rfl,PL.any,(Kb h b (hb.lg (f.lg.frz2.trans L.frz2)) (hk.lg (f.lg.trans L)) r).go λ _=>?_⟩;by_cases hF:b.askF r=0
 .rw[hF,if_pos rfl,if_pos rfl,if_pos rfl];obtain⟨bb,bi,bl⟩:=Bk.askF_ok hF;obtain⟨q,rfl⟩:=Int.eq_ofNat_of_zero_le bi;rw[Int.toNat_natCast];have bq:=bb.nr;have ae:q<6:=by unfold Bk.nr at bl;omega
  conv=>whnf
  intro b7 aq;refine⟨_,.refl _,rfl,Zt (vs:=[.slice h.ra h.rl h.rc,.slice h.ca h.cl h.cc]) aq rfl (by simp[Value.single]) λ U3 N a8=>?_⟩
  repeat refine⟨rfl,?_⟩
  conv=>whnf
  intro b8 bg;refine⟨_,.refl _,?_⟩;have P:=Z4 (U:=U3) b8 (.cells #[.bool false,.bool false] 109);refine⟨_,⟨rfl,(a8.lg P).rd⟩,?_⟩;refine⟨TL.any,(F8 h b ((hb.lg (f.lg.frz2.trans (L.frz2.trans (N.lg.frz2.trans P.frz2)))).lg Qp)).mono ?_⟩;rintro _ U4⟨⟨B',rfl,a1⟩,aj⟩-;have aw:U.frz.lg U4.frz:=f.lg.frz2.trans (L.frz2.trans (N.lg.frz2.trans (P.frz2.trans aj.lg.frz2)));have ad:Zi U4 b3 #[.int .i64 (q:Int)]:=ad.lg (L.trans (N.lg.trans (P.trans aj.lg)))
  have ay:U4.M=.obj b8 (.cells #[.bool (b.dfO q 0 true).isSome,.bool (b.dfO q 0 false).isSome] 109 (0,0))::.obj b5 (.cells #[.slice none 0 0] 26 (0,0))::.obj b4 (.cells #[.slice none 0 0] 26 (0,0))::U.M:=by
   rw[aj.own];show _::U3.M=_;rw[N.own];show _::_::_::U2.M=_;rw[f.own];rfl
  have bh:∀l U5,U4.frz.lg U5->YA S 132 #[.func (.yield l) #[] #[],.pointer (some ⟨B',0,none⟩)] l b.all.length (Gd b) U5:=λ l U5 V=>Dv h b (hb.lg (aw.trans V.frz2)) bb (a1.imI V.imm);have a0:U4.tok=U.tok:=aj.tok.trans (P.tok.trans (N.tok.trans (L.tok.trans f.tok)));clear a1 P aj N aq bg L
  conv=>whnf
  let ZE:Nat->Qa T->Prop:=λ k U'=>U4.frz.lg U'/\∃v4 v5,U'.M=.obj b8 (.cells #[.bool (b.dfO q k true).isSome,.bool (b.dfO q k false).isSome] 109 (0,0))::.obj b5 (.cells #[v5] 26 (0,0))::.obj b4 (.cells #[v4] 26 (0,0))::U.M/\Jd U'.frz v4 (QQ (b.dfO q k true))/\Jd U'.frz v5 (QQ (b.dfO q k false))
  refine Eg Qf b.all.length (Gd b) ZE (λ _ _=>False) (λ _=>False) rfl rfl OV.any bh ?_ ?_ ⟨Qp,_,_,ay,.nil,.nil⟩ ?_ ?_ ?_ ?_
  .rintro k p U' ⟨o,v,-,rfl,-⟩;rfl
  .rintro k U' be G ⟨V,v4,v5,hM,h4,h5⟩;exact⟨SX V G,v4,v5,G.own.trans hM,h4.lg G.lg.frz2,h5.lg G.lg.frz2⟩
  .rintro l A' Bd D k p U₀ KN KX KR KA hk' ⟨o,v,ho,rfl,a,cap,rfl,hio,hcap,hsp⟩ ⟨V,v4,v5,hM,h4,h5⟩ hKN hKX hKR hKA;obtain⟨a4,c4,rfl,h4⟩:=h4;obtain⟨a5,c5,rfl,h5⟩:=h5
   conv=>whnf
   intro b9 ba;refine⟨_,.refl _,rfl,Zt (vs:=QT (.slice a o.length cap) (W1 (b.ends o).1) (J2 (b.ends o).2)) ba rfl (by simp[QT,Value.single]) λ U5 ap av=>?_⟩
   conv=>whnf
   rw[Qa.on_of (ap.own:U5.M=A'::D::U₀.M)];refine hKA _ _ ?_;have Q:(({ U5 with M:=U₀.M }:Qa T).on Bd D).M=[Bd,D]++(.obj b8 (.cells #[.bool (b.dfO q k true).isSome,.bool (b.dfO q k false).isSome] 109 (0,0))::.obj b5 (.cells #[.slice a5 (QQ (b.dfO q k false)).length c5] 26 (0,0))::.obj b4 (.cells #[.slice a4 (QQ (b.dfO q k true)).length c4] 26 (0,0))::U.M):=by show Bd::D::U₀.M=_;rw[hM];rfl
   have z:U₀.frz.lg (({ U5 with M:=U₀.M }:Qa T).on Bd D):=⟨λ x o h=>ap.imm x o h,⟨_,(append_nil _).symm⟩,ap.tok⟩;have a9:Zi (({ U5 with M:=U₀.M }:Qa T).on Bd D) b9 (QT (.slice a o.length cap) (W1 (b.ends o).1) (J2 (b.ends o).2)).toArray:=av;generalize(({ U5 with M:=U₀.M }:Qa T).on Bd D)=U6 at Q z a9 ⊢;clear ap av ba;have ab:Zi U6 b3 #[.int .i64 (q:Int)]:=ad.imI λ x o h=>z.imm x o (V.imm x o h)
   have bm:(QT (.slice a o.length cap) (W1 (b.ends o).1) (J2 (b.ends o).2))[1+q]?=some (.bool ((b.ends o).1.getD q false)):=by
    have:=Uj (W1 (b.ends o).1) ae;rcases Gt ae with rfl|rfl|rfl|rfl|rfl|rfl <;> exact this
   have al:Jn U6 ⟨b9,0,none⟩ (QT (.slice a o.length cap) (W1 (b.ends o).1) (J2 (b.ends o).2)):=a9.reads λ k v hv=>by simpa using hv
   have au:U6.sees (((Addr.mk b9 0 none).add 1).add (q*1)) (.bool ((b.ends o).1.getD q false)):=by
    have:=al (1+q) _ bm;rw[Qo]at this;rw[Qo,Qo,Nat.mul_one]
    rwa [Nat.zero_add]at this ⊢
   have E:=b.dfO_succ (r:=q) (w:=true) ho;have F:=b.dfO_succ (r:=q) (w:=false) ho;have bc:Jd U6.frz (.slice a o.length cap) (o.map λ(k:Nat)=>(k:Int)):=⟨a,cap,S1,by rw[length_map];exact hio.lg z.frz2⟩;have h4:Jd U6.frz (.slice a4 (QQ (b.dfO q k true)).length c4) (QQ (b.dfO q k true)):=⟨a4,c4,rfl,h4.lg z.frz2⟩;have h5:Jd U6.frz (.slice a5 (QQ (b.dfO q k false)).length c5) (QQ (b.dfO q k false)):=⟨a5,c5,rfl,h5.lg z.frz2⟩;have Y:=Za [Bd,D] Q;have bp:U4.frz.lg U6.frz:=V.frz2.trans z.frz2
   have same:∀(ax:Zm T)ao an,(∀ao an U3,U₀.frz.lg U3->ZE (k+1) U3->ax ao an (U3.on Bd D))->b.dfO q (k+1) true=b.dfO q k true->b.dfO q (k+1) false=b.dfO q k false->ax ao an U6:=by
    intro ax ao an hK e1 e2;rw[Qa.on_of (Q:U6.M=Bd::D::(.obj b8 (.cells #[.bool (b.dfO q k true).isSome,.bool (b.dfO q k false).isSome] 109 (0,0))::.obj b5 (.cells #[.slice a5 (QQ (b.dfO q k false)).length c5] 26 (0,0))::.obj b4 (.cells #[.slice a4 (QQ (b.dfO q k true)).length c4] 26 (0,0))::U.M))];refine hK _ _ _ ⟨z.imm,⟨_,(append_nil _).symm⟩,z.tok⟩ ⟨⟨λ x o h=>z.imm x o (V.imm x o h),⟨_,(append_nil _).symm⟩,z.tok.trans V.tok⟩,.slice a4 (QQ (b.dfO q k true)).length c4,.slice a5 (QQ (b.dfO q k false)).length c5,?_,?_,?_⟩
    .rw[e1,e2];rfl
    .rw[e1];exact h4
    .rw[e2];exact h5
   refine⟨_,ab.sees3 (o:=0) rfl,q,⟨rfl,ae⟩,_,au,?_⟩;cases hs:(b.ends o).1.getD q false with
   |true=>
    rw[hs]at E F;cases e4:b.dfO q k true with
    |none=>
     rw[e4]at E;simp at E F;rw[e4]at Q Y;refine⟨0,⟨rfl,O1⟩,_,Y 0 _ rfl,?_⟩
     repeat refine⟨rfl,?_⟩
     refine⟨_,al 0 _ rfl,rfl,Wh (vs:=[.slice a o.length cap]) [Bd,D,_,_] Q rfl (by simp[Value.single]) λ U7 H K X=>?_⟩;refine⟨0,⟨rfl,O1⟩,rfl,WS (i:=0) (v:=.bool true) [Bd,D] X (by show 0<2;omega) rfl λ U8 W Z ai=>?_⟩;have hz:U6.frz.lg U8.frz:=⟨λ x o hx=>by show U8.I x=_;rw[W,H];exact hx,⟨[],rfl⟩,Z.trans K⟩;have af:∀x o,U₀.I x=some o->U8.I x=some o:=λ x o hx=>by rw[W,H];exact z.imm x o hx
     have am:U8.tok=U₀.tok:=by rw[Z,K];exact z.tok
     conv=>whnf
     rw[Qa.on_of (ai:U8.M=Bd::D::(.obj b8 (.cells #[.bool true,.bool (b.dfO q k false).isSome] 109 (0,0))::.obj b5 (.cells #[.slice a5 (QQ (b.dfO q k false)).length c5] 26 (0,0))::.obj b4 (.cells #[.slice a o.length cap] 26 (0,0))::U.M))];refine hKN _ _ _ ⟨af,⟨_,(append_nil _).symm⟩,am⟩ ⟨⟨λ x o h=>af x o (V.imm x o h),⟨_,(append_nil _).symm⟩,am.trans V.tok⟩,.slice a o.length cap,.slice a5 (QQ (b.dfO q k false)).length c5,?_,?_,?_⟩
     .rw[E,F];rfl
     .rw[E];exact bc.lg hz
     .rw[F];exact h5.lg hz
    |some o'=>
     rw[e4]at E;simp at E F;have ak:=same KN;rw[e4]at Q Y;refine⟨0,⟨rfl,O1⟩,_,Y 0 _ rfl,?_⟩
     repeat refine⟨rfl,?_⟩
     refine⟨_,ab.sees3 (o:=0) rfl,q,⟨rfl,ae⟩,_,au,?_⟩;rw[hs]
     repeat refine⟨rfl,?_⟩
     conv=>whnf
     exact ak _ _ hKN (by rw[E,e4]) F
   |false=>
    rw[hs]at E F;cases e5:b.dfO q k false with
    |none=>
     rw[e5]at F;simp at E F;rw[e5]at Q Y
     repeat refine⟨rfl,?_⟩
     refine⟨_,ab.sees3 (o:=0) rfl,q,⟨rfl,ae⟩,_,au,?_⟩;rw[hs];refine⟨1,⟨rfl,O1⟩,_,Y 1 _ rfl,?_⟩
     repeat refine⟨rfl,?_⟩
     refine⟨_,al 0 _ rfl,rfl,Wh (vs:=[.slice a o.length cap]) [Bd,D,_] Q rfl (by simp[Value.single]) λ U7 H K X=>?_⟩;refine⟨1,⟨rfl,O1⟩,rfl,WS (i:=1) (v:=.bool true) [Bd,D] X (by show 1<2;omega) rfl λ U8 W Z ai=>?_⟩;have hz:U6.frz.lg U8.frz:=⟨λ x o hx=>by show U8.I x=_;rw[W,H];exact hx,⟨[],rfl⟩,Z.trans K⟩;have af:∀x o,U₀.I x=some o->U8.I x=some o:=λ x o hx=>by rw[W,H];exact z.imm x o hx
     have am:U8.tok=U₀.tok:=by rw[Z,K];exact z.tok
     conv=>whnf
     rw[Qa.on_of (ai:U8.M=Bd::D::(.obj b8 (.cells #[.bool (b.dfO q k true).isSome,.bool true] 109 (0,0))::.obj b5 (.cells #[.slice a o.length cap] 26 (0,0))::.obj b4 (.cells #[.slice a4 (QQ (b.dfO q k true)).length c4] 26 (0,0))::U.M))];refine hKN _ _ _ ⟨af,⟨_,(append_nil _).symm⟩,am⟩ ⟨⟨λ x o h=>af x o (V.imm x o h),⟨_,(append_nil _).symm⟩,am.trans V.tok⟩,.slice a4 (QQ (b.dfO q k true)).length c4,.slice a o.length cap,?_,?_,?_⟩
     .rw[E,F];rfl
     .rw[E];exact h4.lg hz
     .rw[F];exact bc.lg hz
    |some o'=>
     rw[e5]at F;simp at E F;have ak:=same KN;rw[e5]at Q Y
     repeat refine⟨rfl,?_⟩
     refine⟨_,ab.sees3 (o:=0) rfl,q,⟨rfl,ae⟩,_,au,?_⟩;rw[hs];refine⟨1,⟨rfl,O1⟩,_,Y 1 _ rfl,?_⟩
     repeat refine⟨rfl,?_⟩
     conv=>whnf
     exact ak _ _ hKN E (by rw[F,e5])
  .rintro d l OA U3' ⟨V,v4,v5,hM,h4,h5⟩;obtain⟨a4,c4,rfl,h4⟩:=h4;obtain⟨a5,c5,rfl,h5⟩:=h5;have aa:(U3'.on (.obj l OA) (.obj d (.deferred (some [])))).M=[.obj l OA,.obj d (.deferred (some []))]++(.obj b8 (.cells #[.bool (b.dfO q b.all.length true).isSome,.bool (b.dfO q b.all.length false).isSome] 109 (0,0))::.obj b5 (.cells #[.slice a5 (QQ (b.dfO q b.all.length false)).length c5] 26 (0,0))::.obj b4 (.cells #[.slice a4 (QQ (b.dfO q b.all.length true)).length c4] 26 (0,0))::U.M):=by show _::_::U3'.M=_;rw[hM];rfl
   have h4:Jd (U3'.on (.obj l OA) (.obj d (.deferred (some [])))).frz (.slice a4 (QQ (b.dfO q b.all.length true)).length c4) (QQ (b.dfO q b.all.length true)):=⟨a4,c4,rfl,h4⟩;have h5:Jd (U3'.on (.obj l OA) (.obj d (.deferred (some [])))).frz (.slice a5 (QQ (b.dfO q b.all.length false)).length c5) (QQ (b.dfO q b.all.length false)):=⟨a5,c5,rfl,h5⟩;have az:U4.frz.lg (U3'.on (.obj l OA) (.obj d (.deferred (some [])))):=⟨V.imm,⟨_,(append_nil _).symm⟩,V.tok⟩;generalize(U3'.on (.obj l OA) (.obj d (.deferred (some []))))=U5 at aa h4 h5 az ⊢;have e1:QQ (b.dfO q b.all.length true)=(b.difS q true).map λ(k:Nat)=>(k:Int):=by unfold QQ;rw[b.dfO_end]
   have e2:QQ (b.dfO q b.all.length false)=(b.difS q false).map λ(k:Nat)=>(k:Int):=by unfold QQ;rw[b.dfO_end]
   have bj:=Za (b:=b4) (vs:=[.slice a4 (QQ (b.dfO q b.all.length true)).length c4]) [_,_,_,_] aa;have bk:=Za (b:=b5) (vs:=[.slice a5 (QQ (b.dfO q b.all.length false)).length c5]) [_,_,_] aa;refine⟨λ U'=>U5.frz.lg U'/\U'.M=U5.M,λ U U'⟨a,b⟩G=>⟨SX a G,G.own.trans b⟩,_,bj 0 _ rfl,.slice a5 (QQ (b.dfO q b.all.length false)).length c5,λ U' G _=>⟨_,(bk 0 _ rfl).lg G.lg,rfl,_,.refl _,.refl _⟩,λ U' hG=>⟨_,Za [_,_,_] (hG.2.trans aa) 0 _ rfl,rfl,_,.refl _,.refl _⟩,?_⟩
   conv=>whnf
   intro U' G _;refine⟨⟨rfl,VG (vs:=[.slice a4 (QQ (b.dfO q b.all.length true)).length c4]) [_,_,_,_] (G.own.trans aa) rfl (by simp[Value.single]) ⟨rfl,_,.refl _,⟨⟨λ b o h=>G.imm b o h,⟨_,(append_nil _).symm⟩,G.tok⟩,aa.symm⟩⟩⟩,λ be hG=>?_⟩;obtain⟨ac,ah⟩:=hG;have ah:=ah.trans aa;refine⟨rfl,Wh (vs:=[.slice a5 (QQ (b.dfO q b.all.length false)).length c5]) [_,_,_] ah rfl (by simp[Value.single]) λ U7 H K X=>?_⟩;have hz:U5.frz.lg U7.frz:=⟨λ x o hx=>by show U7.I x=_;rw[H];exact ac.imm x o hx,⟨[],rfl⟩,K.trans ac.tok⟩;refine⟨[.obj l OA,.obj d (.deferred none)]++(.obj b8 (.cells #[.bool (b.dfO q b.all.length true).isSome,.bool (b.dfO q b.all.length false).isSome] 109 (0,0))::.obj b5 (.cells #[.slice a5 (QQ (b.dfO q b.all.length false)).length c5] 26 (0,0))::.obj b4 (.cells #[.slice a4 (QQ (b.dfO q b.all.length true)).length c4] 26 (0,0))::U.M),by rw[X];exact .there .here,?_⟩;refine⟨_,Za [_,_,_,_] rfl 0 _ rfl,?_⟩;refine⟨_,Za [_,_,_] rfl 0 _ rfl,?_⟩;refine⟨⟨_,_,rfl,?_,?_⟩,⟨λ x o hx=>?_,⟨[_,_,_,_,_],rfl⟩,?_⟩⟩
   .rw[<- e1];exact h4.lg hz
   .rw[<- e2];exact h5.lg hz
   .show U7.I x=_;rw[H];exact ac.imm x o (az.imm x o (aw.imm x o hx))
   .show U7.tok=_;rw[K];exact ac.tok.trans (az.tok.trans a0)
  .exact λ _ _ _ _ _ h=>h.elim
  simp_all
 .rw[if_neg hF,if_neg hF,if_neg hF]
  conv=>whnf
  intro b7 aq;refine⟨_,.refl _,rfl,Zt (vs:=[.slice none 0 0,.slice none 0 0]) aq rfl (by simp[Value.single]) λ U3 N a8=>?_⟩
  have a6:U3.M=[.obj b5 (.cells #[.slice none 0 0] 26 (0,0))]++.obj b4 (.cells #[.slice none 0 0] 26 (0,0))::U.M:=by
   rw[N.own];show _::_::U2.M=_;rw[f.own];rfl
  repeat refine⟨rfl,?_⟩
  conv=>whnf
  apply Qe<;>intro hc
  .refine⟨rfl,Wh (vs:=[.slice none 0 0]) [_] a6 rfl (by simp[Value.single]) λ U4 a2 a0 ay=>?_⟩;refine⟨rfl,Wh (vs:=[.slice none 0 0]) [] ay rfl (by simp[Value.single]) λ U5 a3 bd ag=>?_⟩;refine⟨_,Za [_] ag 0 _ rfl,_,Za [] ag 0 _ rfl,⟨_,_,rfl,.nil,.nil⟩,⟨λ x o hx=>?_,⟨[_,_],ag⟩,?_⟩⟩
   .rw[a3,a2];exact N.imm x o (L.imm x o (f.imm x o hx))
   .rw[bd,a0];exact N.tok.trans (L.tok.trans f.tok)
  .exact absurd (by simpa using hc) hF
end Go.Proofs
namespace Go.TM
variable{T:Type}{P:Program}{S:Sys P T}{f:Fm}{K:Value->Qa T->Prop}{U:Qa T}
def pd{t e ty n:Nat}{z:Value}{w:TypeInfo}{x y:Operand}(Z:P.underlying t=some (.slice e))(G:P.info? e=some w)(hz:w.zero=some z)(N:z.cells=#[z])(L:w.size=1)(F:w.bytes<=64)
  (hx:Zj f x=.int .i64 0) (hy:Zj f y=.int .i64 n) (Y:n<=1048576) (h:∀b,U.free b->K (.slice (some ⟨b,0,none⟩) 0 n) (U.put b (.cells (replicate n z).toArray e))) :
  OX S (.raw { dst:=none,op:=.makeSlice t x y,type:=ty,pos := "", after:=#[],guard:=none }) f K U:=by
 intro a' T;simp only[execOp,T,hx,hy];refine rq ?_;unfold Instr.makeSlice;have hw:IntKind.wrap .i64 (n:Int)=n:=Gb I1;have M:IntKind.wrap .i64 (0:Int)=0:=D1
 simp only[Qd,Zg Z,asInt,asIntOf,Qk,Wi G,hw,M]
 have X:(w.bytes:Int)*(n:Int)<=67108864:=by
  have:=Nat.mul_le_mul F Y;have e:((w.bytes*n:Nat):Int)=(w.bytes:Int)*n:=S1
  omega
 have E:(2:Int)^48=281474976710656:=D1
 have I:(((decide ((n:Int)<0)|| decide ((w.bytes:Int)*(n:Int) > 2^48))|| decide ((0:Int)<0))|| decide ((0:Int) > n))=false:=by
  rw[E];simp only[Bool.or_eq_false_iff,decide_eq_false_iff_not];omega
 simp only[I,Bool.false_eq_true,if_false];rw[Qd];refine GZ ?_;simp only[Qd,Jh G,L,Nat.mul_one,Int.toNat_natCast]
 have fin:∀c:Array Value,(n≠0->c=z.cells)->Qr P (newRow e ((Array.range n).map (c[· % c.size]!))) (λ a U'=>∃Q,Qw U' Q/\K (.slice (some a) 0 n) Q) U:=by
  intro c W;refine Jk λ b V=>⟨_,.refl _,?_⟩
  have:(Array.range n).map (c[· % c.size]!)=(replicate n z).toArray:=by
   apply Array.ext
   .simp
   .intro i h1 h2;have H:n≠0:=by simp at h1;omega
    have B:=W H;rw[N]at B;subst B;simp[Nat.mod_one]
  rw[this];exact h b V
 split
 .rename_i h0;exact fin #[] λ h=>absurd h0 h
 .simp only[Qd,XN G hz];exact fin _ λ _=>rfl
def WH.perm{M':List Qx}(e:WH U)(h:U.M.Perm M'):WH { U with M:=M' }:=λ r b=>e r (h.mem_iff.2 b)
theorem Jw.freeze{e n:Nat}{v:Value}{cs:List Value}{A R:List Qx}(H:WH U)(h:Jw e n v cs A)(z:U.M.Perm (A++R)) :
  ∃b,Qw U b/\b.M=R/\U.frz.lg b.frz/\∃a len cap,v=.slice a len cap/\cs.length=len*n/\QS b.frz a cs/\(∀w,a=some w->w.spot=none):=by
 obtain⟨b,I,f,a,len,cap,B,E,F,G,-⟩:=(h R).freeze (U:={ U with M:=R }) (U':={ U with M:=A++R }) (H.perm z) (λ _ _ h=>h) rfl;exact⟨b,(W7 z).trans I,f.own,⟨f.imm,⟨[],rfl⟩,f.tok⟩,a,len,cap,B,E,F,G⟩
theorem Jw.blk{e n:Nat}{v:Value}{cs:List Value}{A:List Qx}(h:Jw e n v cs A)(f:cs≠[]):∃b c len cap,v=.slice (some ⟨b,0,none⟩) len cap/\cs.length=len*n/\len<=cap/\c.size=cap*n/\A=[.obj b (.cells c e (0,0))]/\∀(i:Nat)(x:Value),cs[i]?=some x->c[i]?=some x:=by
 rcases h []with⟨_,w,_⟩|⟨b,c,len,cap,w,z,B,E,G,F⟩
 .exact absurd w f
 grind
def Jw.ofBlk{e n b len cap:Nat}{cs:List Value}{c:Array Value}(f:cs.length=len*n)(h:len<=cap)(w:c.size=cap*n)(z:∀(i:Nat)(x:Value),cs[i]?=some x->c[i]?=some x):Jw e n (.slice (some ⟨b,0,none⟩) len cap) cs [.obj b (.cells c e (0,0))]:=
 λ _=>.inr ⟨b,c,len,cap,rfl,f,h,w,rfl,z⟩
end Go.TM
namespace Go.TM
def Acc.room{e n:Nat}{a:Option Addr}{l c:Nat}{cs:List Value}{M M₀:List Qx}(h:Acc e n (.slice a l c) cs M M₀):l<=c:=by
 rcases h with⟨e,-,-⟩|⟨_,_,_,_,e,-,h,-⟩ <;> cases e
 .simp_all
 .exact h
end Go.TM
namespace Go.Proofs
open Go.TM
variable{T:Type}{S:TM.Sys prog T}{U:Qa T}
attribute [local irreducible] Qb Zl Wt
def MT:Xa prog 22 9 1:=.of K1
def yB:prog.underlying 22=some (.slice 9):=K1
def jz:Xa prog 47 26 1:=.of K1
def NL:prog.underlying 47=some (.slice 26):=K1
def Mf:Xa prog 23 49 4:=.of K1
def UH(a:Option Addr)(len cap:Nat)(l:List ByteArray)(T:Q5 U a len 1 l λ s vs=>vs=[.string s])(Y:len<=1000) :
  Qb S 136 #[.slice a len cap] (λ v U'=>(∃a' b f,v=.slice a' b f/\b<=f/\Q5 U'.frz a' b 1 l λ s vs=>vs=[.string s])/\U.le U') U:=by
 have F:=T.1
 have L:Qb S 136 #[.slice a len cap] (λ v U'=>Acc 9 1 v (l.map .string) U'.M U.M/\(∀x o,U.I x=some o->U'.I x=some o)/\U'.tok=U.tok) U:=by
  refine Qb.of (args:=[_]) U0 Qf S1 ?_
  conv=>whnf
  refine K6 yB rfl ?_
  conv=>whnf
  apply Qe<;>intro X
  .have N:a=none:=by simpa using X
   subst N
   have:l=[]:=by
    cases l with
    |nil=>rfl
    |cons x r=>
     obtain⟨w,_,_,_,h,_⟩:=Q5.at T (show 0<len by simp at F;omega);cases h
   subst this
   repeat refine⟨rfl,?_⟩
   conv=>whnf
   exact⟨.nil,λ _ _ h=>h,rfl⟩
  .obtain⟨w,rfl⟩:∃w,a=some w:=by cases a with|none=>cases X|some w=>exact⟨w,rfl⟩
   conv=>whnf
   intro W aa;refine⟨_,.refl _,?_⟩
   conv=>whnf
   refine Ws (v:=.slice (some ⟨W,0,none⟩) 0 0) (cs:=[]) (new:=l.map .string) (M₀:=U.M) MT rfl rfl .empty (.inr ⟨_,rfl,λ i v B=>?_⟩) (by simp[F]) (by simp[Value.single]) S3 λ v' M' E _=>?_
   .rw[getElem?_map]at B;cases H:l[i]? with
    |none=>simp_all
    |some x=>
     rw[H]at B;cases B;have hi:i<len:=by have:=(List.getElem?_eq_some_iff.1 H).1;omega
     obtain⟨Z,x',vs,K,e,z,rfl,-,V⟩:=Q5.at T hi;cases e;rw[H]at K;cases K;have P:=V 0 _ rfl;obtain⟨bb,oo,ss⟩:=w;cases z;rw[Qo,Qo,Nat.mul_one,Nat.add_zero]at P;rw[Qo];exact P.lg (Z4 W _)
   obtain⟨ta,tl,tc,rfl,-,-⟩:=Acc.src (U:={ U with M:=M' }) E
   repeat refine⟨rfl,?_⟩
   conv=>whnf
   exact⟨by simpa using E,λ _ _ h=>h,rfl⟩
 refine L.sep λ v U' P⟨N,hI,ht⟩=>?_;obtain⟨Q,k1,k2,a',b,f,rfl,ab,G,z,_⟩:=N.freeze P hI ht;refine⟨Q,k1,⟨a',b,f,rfl,N.room,?_⟩,k2⟩;refine⟨S2,λ i x H=>?_⟩;rcases G with⟨_,hn⟩|⟨w,rfl,V⟩
 .simp_all
 .refine⟨w,[.string x],rfl,z w rfl,rfl,rfl,λ k v B=>?_⟩;cases k with
  |zero=>
   simp at B;subst B;have h1:=V i (.string x) (by simp[H]);obtain⟨bb,oo,ss⟩:=w;simp_all[Qo,Nat.mul_one,Nat.add_zero]
  |succ k=>simp at B
end Go.Proofs
namespace Go.TM
variable{T:Type}{P:Program}{S:Sys P T}{U U':Qa T}
def Qb.okv{f:FuncId}{args:Array Value}{R R':Value->Qa T->Prop}{U:Qa T}(h:Qb S f args R U)(z:∀v U',(∃w,U'.ok w)->R v U'->∃b,Qw U' b/\R' v b):Qb S f args R' U:=by
 intro Stop m c cs k;refine h Stop m c cs λ v U' r=>?_;by_cases e:∃w,U'.ok w
 .obtain⟨b,h1,h2⟩:=z v U' e r;exact .shift h1 (k v _ h2)
 .exact .priv ⟨rfl,λ w ok=>absurd ⟨w,ok⟩ e⟩
def Ko(h:∃w,U.ok w):WH U:=let ⟨_,ok⟩:=h;ok.sep
def LX(h:∃w,U.ok w)(k:Qw U U'):∃w,U'.ok w:=let ⟨w,ok⟩:=h;⟨w,(k.2 w ok).1⟩
structure JN where
 ga:Option Addr
 gl:Nat
 gc:Nat
 v:Value
 F:List Qx
def ZB(p:Cs×JN):List Value:=[.string p.1.nm,.int .i64 p.1.ag,.slice p.2.ga p.2.gl p.2.gc,p.2.v]
structure X4(U:Qa T)(p:Cs×JN):Prop where
 gs:J3 U.frz p.2.ga p.2.gl p.1.gs
 gl:p.2.gl<2^60
 af:Jw 3 1 p.2.v (p.1.af.map λ n=>.int .i64 n) p.2.F
 nm:p.1.nm.size<2^60
 al:p.1.af.length<=1000
def X4.lg{p:Cs×JN}(h:X4 U p)(k:U.frz.lg U'.frz):X4 U' p:=⟨h.gs.lg k,h.gl,h.af,h.nm,h.al⟩
theorem Q0{α β:Type}{f:α->List β}{n:Nat}(b:∀a,(f a).length=n):∀l:List α,(l.flatMap f).length=l.length*n
 |[]=>S1
 |a::l=>by simp only[flatMap_cons,length_append,b,Q0 b l,length_cons,Nat.succ_mul];omega
theorem Z0(p:Cs×JN):(ZB p).length=4:=rfl
def P9{α β:Type}{f:α->List β}{n:Nat}(e:∀a,(f a).length=n){l:List α}{i j:Nat}{a:α}(h:l[i]?=some a)(w:j<n):(l.flatMap f)[i*n+j]?=(f a)[j]?:=by
 induction l generalizing i with
 |nil=>cases h
 |cons b l z=>
  cases i with
  |zero=>
   grind
  |succ i=>
   grind
structure QW(U:Qa T)(h:BH)(b:Bk)(M₀:List Qx):Prop where
 ex:∃(ps:List (Cs×JN))(A:List Qx),ps.map (·.1)=b.cs/\(∀p∈ps,X4 U p)/\Jw 49 4 (.slice h.ca h.cl h.cc) (ps.flatMap ZB) A/\U.M.Perm (A++(ps.flatMap (·.2.F)++M₀))
 rs:Q5 U.frz h.ra h.rl 1 b.rs λ s vs=>vs=[.string s]
 rl:h.rl<2^60
 rn:∀s∈b.rs,s.size<2^60
 rc:h.rl<=h.rc
def QW.le{h:BH}{b:Bk}{M₀:List Qx}(k:QW U h b M₀)(e:U.le U'):QW U' h b M₀:=
 let ⟨ps,A,h1,h2,h3,h4⟩:=k.ex
 ⟨⟨ps,A,h1,λ p f=>(h2 p f).lg e.lg.frz2,h3,by rw[e.own];exact h4⟩,k.rs.lg e.lg.frz2 λ _ _ h=>h,k.rl,k.rn,k.rc⟩
def Ez:∀(E:List (Cs×JN)){U:Qa T}{R:List Qx},(∃w,U.ok w)->(∀p∈E,X4 U p)->U.M.Perm (E.flatMap (·.2.F)++R) ->
  ∃b,Qw U b/\b.M.Perm R/\U.frz.lg b.frz/\∀p∈E,∃I al ac,p.2.v=.slice I al ac/\Z5 b.frz I al p.1.af/\al<2^60
 |[],U,R,_,_,G=>⟨U,.refl _,by simpa using G,⟨λ _ _ h=>h,⟨[],rfl⟩,rfl⟩,S1⟩
 |p::E,U,R,N,f,G=>by
  have L:=f p (mem_cons_self ..);rw[flatMap_cons,append_assoc]at G;obtain⟨V,P,X,Q,a,len,cap,e,K,B,H⟩:=L.af.freeze (Ko N) G;obtain⟨W,Y,Z,S,m4⟩:=Ez E (U:=V) (R:=R) (LX N P) (λ q z=>(f q (mem_cons_of_mem _ z)).lg Q) (by rw[X]);refine⟨W,P.trans Y,Z,Q.trans S,λ q z=>?_⟩;rcases mem_cons.1 z with rfl|z
  .simp at K;subst K;exact⟨a,_,cap,e,(Vf B H).lg S,by have:=L.al;omega⟩
  .exact m4 q z
theorem QW.freeze{h:BH}{b:Bk}{M₀:List Qx}(k:QW U h b M₀)(Y:∃w,U.ok w)(ab:b.cs.length<=1000):∃f,Qw U f/\f.M=M₀/\U.frz.lg f.frz/\Zq f.frz h b:=by
 obtain⟨Q,A,S,L,h3,h4⟩:=k.ex
 have T:U.M.Perm (Q.flatMap (·.2.F)++(A++M₀)):=h4.trans (by
  grind[append_assoc,Perm.append_right,perm_append_comm])
 obtain⟨U1,k1,k2,W,k4⟩:=Ez Q Y L T;obtain⟨U2,m1,m2,P,a,len,cap,e,hl,I,H⟩:=h3.freeze (Ko (LX Y k1)) k2;cases e;rw[Q0 Z0]at hl;have G:b.cs.length=h.cl:=by rw[<- S,length_map];omega
 refine⟨U2,k1.trans m1,m2,W.trans P,k.rs.lg (W.trans P) λ _ _ h=>h,⟨G,λ i c z=>?_⟩,k.rl,O1,k.rn,λ c z=>?_⟩
 .have hpi:∃p,Q[i]?=some p/\p.1=c:=by
   rw[<- S,getElem?_map]at z;cases Z:Q[i]? with
   |none=>rw[Z]at z;cases z
   |some p=>rw[Z]at z;cases z;exact⟨p,rfl,rfl⟩
  obtain⟨p,N,rfl⟩:=hpi;have E:=mem_of_getElem? N;obtain⟨aa,al,ac,ev,hi,V⟩:=k4 p E;rcases I with⟨_,hn⟩|⟨K,B,hr⟩
  .simp_all[ZB]
  .refine⟨K,ZB p,B,H K B,⟨p.2.ga,p.2.gl,p.2.gc,aa,al,ac,by rw[<- ev];rfl,(L p E).gs.lg (W.trans P),(L p E).gl,hi.lg P,V⟩,rfl,λ j v X=>?_⟩;have hj:j<4:=by have:=(List.getElem?_eq_some_iff.1 X).1;exact this
   have h5:=hr (i*4+j) v (by rw[P9 Z0 N hj];exact X);have hs:=H K B;obtain⟨bb,oo,ss⟩:=K;grind[Qo,Nat.add_assoc]
 .rw[<- S]at z;obtain⟨p,N,rfl⟩:=mem_map.1 z;exact(L p N).nm
end Go.TM
namespace Go.Proofs
open Go.TM
variable{T:Type}{S:TM.Sys prog T}{U:Qa T}
attribute [local irreducible] Qb Zl Wt
def oK:∃b,prog.info? 26=some b/\b.zero=some (.slice none 0 0)/\b.size=1/\b.bytes<=64:=by
 have e:(prog.info? 26).map (·.zero)=some (some (.slice none 0 0)):=K1
 have f:(prog.info? 26).map (·.size)=some 1:=K1
 have w:(prog.info? 26).map (λ i=>decide (i.bytes<=64))=some true:=K1
 cases h:prog.info? 26 with
 |none=>simp_all
 |some b=>
  simp_all
def DV(c:Cs)(ga E:Option Addr)(gl gc al ac:Nat)(hg:J3 U.frz ga gl c.gs)(bs:gl<=1000)(ha:Z5 U.frz E al c.af)(bm:al<=1000)(bc:∀g∈c.gs,g.length<=1000)(be:c.nm.size<2^60) :
  Qb S 137 #[.agg #[.string c.nm,.int .i64 c.ag,.slice ga gl gc,.slice E al ac]] (λ v U'=>(∃k:JN,v=.agg (ZB (c,k)).toArray/\X4 U' (c,k)/\U'.M=k.F++U.M)/\(∀x o,U.I x=some o->U'.I x=some o)/\U'.tok=U.tok) U:=by
 have bl:=hg.1;have bj:=ha.1
 have az:Qb S 137 #[.agg #[.string c.nm,.int .i64 c.ag,.slice ga gl gc,.slice E al ac]] (λ v U'=>∃g v' cells G F Y,v=.agg #[.string c.nm,.int .i64 c.ag,g,v']/\Jw 26 1 g cells G/\Xn U' cells c.gs/\Jw 3 1 v' (c.af.map λ n=>.int .i64 n) F/\U'.M=F++(G++(Y++U.M))/\(∀x o,U.I x=some o->U'.I x=some o)/\U'.tok=U.tok) U:=by
  refine Qb.of (args:=[_]) Oh Qf S1 ?_;obtain⟨bw,i1,i2,i3,i4⟩:=oK
  conv=>whnf
  intro K bp
  conv=>whnf
  intro L bq;refine⟨_,.refl _,?_⟩;have hM:((U.put K (.cells [.string c.nm,.int .i64 c.ag,.slice ga gl gc,.slice E al ac].toArray 49)).put L (.cells #[.string ⟨#[]⟩,.int .i64 0,.slice none 0 0,.slice none 0 0] 49)).M=[.obj L (.cells #[.string ⟨#[]⟩,.int .i64 0,.slice none 0 0,.slice none 0 0] 49 (0,0))]++.obj K (.cells [.string c.nm,.int .i64 c.ag,.slice ga gl gc,.slice E al ac].toArray 49 (0,0))::U.M:=rfl;have bu:U.frz.lg ((U.put K (.cells [.string c.nm,.int .i64 c.ag,.slice ga gl gc,.slice E al ac].toArray 49)).put L (.cells #[.string ⟨#[]⟩,.int .i64 0,.slice none 0 0,.slice none 0 0] 49)):=⟨λ _ _ h=>h,⟨_,(append_nil _).symm⟩,rfl⟩;refine⟨_,(Za [_] hM).cell (i:=2) rfl,?_⟩
  conv=>whnf
  refine pd (n:=gl) NL i1 i2 rfl i3 i4 rfl rfl O1 λ bg bo=>?_;have a3:(((U.put K (.cells [.string c.nm,.int .i64 c.ag,.slice ga gl gc,.slice E al ac].toArray 49)).put L (.cells #[.string ⟨#[]⟩,.int .i64 0,.slice none 0 0,.slice none 0 0] 49)).put bg (.cells (replicate gl (Value.slice none 0 0)).toArray 26)).M=[.obj bg (.cells (replicate gl (Value.slice none 0 0)).toArray 26 (0,0)),.obj L (.cells #[.string ⟨#[]⟩,.int .i64 0,.slice none 0 0,.slice none 0 0] 49 (0,0))]++.obj K (.cells [.string c.nm,.int .i64 c.ag,.slice ga gl gc,.slice E al ac].toArray 49 (0,0))::U.M:=rfl;refine⟨_,(Za [_,_] a3).cell (i:=2) rfl,Nat×Value,λ y=>[(1,.pointer (some ⟨K,0,none⟩)),(2,.pointer (some ⟨L,0,none⟩)),(3,y.2),(11,.slice ga gl gc),(12,.int .i64 gl),(13,.int .i64 y.1)],
   λ y U'=>U.frz.lg U'/\(∃A cells,U'.M=A++([.obj L (.cells #[.string ⟨#[]⟩,.int .i64 0,.slice none 0 0,.slice none 0 0] 49 (0,0)),.obj K (.cells [.string c.nm,.int .i64 c.ag,.slice ga gl gc,.slice E al ac].toArray 49 (0,0))]++U.M)/\Jw 26 1 y.2 cells A/\Xn U' cells (c.gs.take y.1))/\y.1<=gl,λ y=>gl-y.1,(0,.slice (some ⟨bg,0,none⟩) 0 gl),T1,⟨⟨λ _ _ h=>h,⟨_,(append_nil _).symm⟩,rfl⟩,⟨[_],[],rfl,.ofBlk rfl O1 S1 S1,⟨rfl,S1⟩⟩,O1⟩,?_⟩
  rintro⟨i,v⟩f U1⟨H,⟨A,cells,V,z,w⟩,hi⟩;simp only at z w hi;obtain⟨sa,sl,sc,rfl,bv⟩:=z.src;have bd:Zu ((i:Int)+1):=I1
  have ba:=w.1;rw[length_take]at ba
  repeat refine⟨rfl,?_⟩
  conv=>whnf
  apply Qe<;>intro hc
  .have hlt:i<gl:=by simpa using hc
   obtain⟨ad,g,vs,hx,rfl,au,⟨a',ay,Z,rfl,am,br⟩,-,bf⟩:=Q5.at (J3.lg hg H) hlt;have bt:=bc g (mem_of_getElem? hx);have bk:=am.1;refine⟨ad,i,⟨rfl,rfl,hlt⟩,_,bf 0 _ rfl,GP.any,(Qb.ints (e:=3) (Md a' ay Z g am O1)).mono ?_⟩;rintro _ U2⟨⟨ca,cc,rfl,a9⟩,a6⟩-
   conv=>whnf
   intro bn bb;refine Zk bb λ U3 ak W=>?_;have W:Zi U3 bn #[.slice ca g.length cc]:=W;have B:=a6.trans ak
   have X:Xn U3 (cells++[.slice ca g.length cc]) (c.gs.take (i+1)):=by
    rw[Ji hx];exact(w.lg B.lg.frz2).snoc (a9.lg ak.lg.frz2) O1
   conv=>whnf
   refine Ws (v:=.slice sa sl sc) (cs:=cells) (new:=[.slice ca g.length cc]) (M₀:=[.obj L (.cells #[.string ⟨#[]⟩,.int .i64 0,.slice none 0 0,.slice none 0 0] 49 (0,0)),.obj K (.cells [.string c.nm,.int .i64 c.ag,.slice (some ad) gl gc,.slice E al ac].toArray 49 (0,0))]++U.M) jz rfl rfl (by rw[B.own,V];exact z _) (.inr ⟨_,rfl,W.rd⟩) rfl (by simp[Value.single]) S3 λ v' M' a7 _=>?_;obtain⟨a0,a2,Q⟩:=a7.split;obtain⟨ta,tl,tc,rfl,-⟩:=Q.src;have ao:U.frz.lg ({ U3 with M:=M' }:Qa T):=⟨λ x o h=>B.imm x o (H.imm x o h),⟨_,(append_nil _).symm⟩,B.tok.trans H.tok⟩;refine⟨bd,?_⟩
   conv=>whnf
   exact⟨rfl,(i+1,.slice ta tl tc),T1,⟨ao,⟨a0,_,a2,Q,X.lg ⟨λ _ _ h=>h,⟨[],rfl⟩,rfl⟩⟩,by grind⟩,by grind⟩
  .have hge:i=c.gs.length:=by simp at hc;omega
   subst hge;rw[take_length]at w;have aq:=Za (U:=U1) (b:=K) (e:=49) (M₀:=U.M) (vs:=[.string c.nm,.int .i64 c.ag,.slice ga gl gc,.slice E al ac]) (A++[.obj L (.cells #[.string ⟨#[]⟩,.int .i64 0,.slice none 0 0,.slice none 0 0] 49 (0,0))]) (by rw[V];simp);refine⟨_,aq.cell (i:=3) rfl,GP.any,(Md E al ac c.af (ha.lg H) O1).mono ?_⟩;rintro v U2⟨a8,ab,aw⟩-;obtain⟨F,a5,hF⟩:=a8.split;obtain⟨fa,fl,fc,rfl,-⟩:=hF.src;have a4:U2.M=(F++A++[.obj L (.cells #[.string ⟨#[]⟩,.int .i64 0,.slice none 0 0,.slice none 0 0] 49 (0,0))])++.obj K (.cells [.string c.nm,.int .i64 c.ag,.slice ga gl gc,.slice E al ac].toArray 49 (0,0))::U.M:=by rw[a5,V];simp
   refine⟨rfl,WS (i:=2) (v:=.slice sa sl sc) _ a4 (by show 2<4;omega) rfl λ U3 a1 bh aj=>?_⟩;refine⟨rfl,WS (i:=3) (v:=.slice fa fl fc) _ aj (by show 3<4;omega) rfl λ U4 ae bi N=>?_⟩;have N:U4.M=(F++A++[.obj L (.cells #[.string ⟨#[]⟩,.int .i64 0,.slice none 0 0,.slice none 0 0] 49 (0,0))])++.obj K (.cells [.string c.nm,.int .i64 c.ag,.slice sa sl sc,.slice fa fl fc].toArray 49 (0,0))::U.M:=N;have ai:U4.M=(F++A)++.obj L (.cells #[.string ⟨#[]⟩,.int .i64 0,.slice none 0 0,.slice none 0 0] 49 (0,0))::.obj K (.cells [.string c.nm,.int .i64 c.ag,.slice sa sl sc,.slice fa fl fc].toArray 49 (0,0))::U.M:=by rw[N];simp
   refine⟨_,⟨rfl,Za _ N⟩,rfl,Wh (vs:=[.string c.nm,.int .i64 c.ag,.slice sa sl sc,.slice fa fl fc]) _ ai rfl (by simp[Value.single]) λ U5 ah ax P=>?_⟩;refine⟨_,⟨rfl,Za _ P⟩,?_⟩;have hz:U1.frz.lg U5.frz:=⟨λ x o h=>by show U5.I x=_;rw[ah,ae,a1];exact ab x o h,⟨[],rfl⟩,by show U5.tok=_;rw[ax,bi,bh];exact aw⟩
   conv=>whnf
   exact⟨_,_,cells,A,F,[_,_],rfl,z,w.lg hz,hF,by rw[P];simp;exact⟨rfl,rfl⟩,λ x o h=>hz.imm x o (H.imm x o h),hz.tok.trans H.tok⟩
 refine az.okv λ v U' hw⟨g,v',cells,G,F,Y,hv,hG,w,hF,hM,hI,ht⟩=>?_
 have hp:U'.M.Perm (G++(F++(Y++U.M))):=by
  rw[hM];exact perm_append_comm_assoc _ _ _
 obtain⟨U1,k1,k2,k3,a,len,cap,rfl,hl,av,au⟩:=hG.freeze (Ko hw) hp;have an:c.gs.length=len:=by rw[<- w.1];omega
 have ap:=(w.lg k3).lists av au;rw[an]at ap;refine⟨{ U1 with M:=F++U.M },k1.trans (Z1 S2),⟨⟨a,len,cap,v',F⟩,hv,⟨ap,by show len<_;omega,hF,be,S2⟩,rfl⟩,λ x o h=>k3.imm x o (hI x o h),k3.tok.trans ht⟩
def LJ:List (List (Nat×St)):=[[(0,.xo 19 1 3),(0,.xl 20 19),(0,.xd 21 4 5),(2,.d 22 (.call (.func 137) #[(.t 21)])),(2,.d 23 (.bsl 49 1 #[(.string ⟨#[]⟩),(.int .i64 0),(.slice none 0 0),(.slice none 0 0)] [(0,4,(.t 22))]))]]
def yX:List St:=[.xz 24 20 23 23,.xo 25 1 3,⟨.st 1 (.t 25) (.t 24),none,none,none⟩]
def I9:List (List (Nat×St)):=[[(0,.xo 152 1 10),(0,.xl 153 152),(0,.m 154 15),(0,.xo 155 1 10),(0,.xl 156 155),(0,.m 157 15),(0,.xi 158 4 156 157),(0,.xo 159 3 158),(0,.xl 160 159),(0,.m 161 17),(2,.d 162 (.bsl 3 1 #[(.int .i64 0)] [(0,1,(.t 161))])),(2,.xz 163 160 162 26)]]
def wX:List St:=[.xi 164 4 153 154,.xo 165 3 164,⟨.st 1 (.t 165) (.t 163),none,none,none⟩]
end Go.Proofs
namespace Go.TM
def Q5.case{T:Type}{U:Qa T}{h:BH}{b:Bk}(k:Q5 U h.ca h.cl 4 b.cs (HT U)){i:Nat}(z:i<h.cl) :
  ∃e c ga gl gc f al ac,b.cs[i]?=some c/\h.ca=some e/\e.spot=none/\Jn U (e.add (i*4)) [.string c.nm,.int .i64 c.ag,.slice ga gl gc,.slice f al ac]/\J3 U ga gl c.gs/\gl<2^60/\Z5 U f al c.af/\al<2^60/\c∈b.cs:=by
 obtain⟨e,c,vs,K,w,E,⟨ga,gl,gc,f,al,ac,rfl,F,G,H,I⟩,-,B⟩:=k.at z;grind
structure Bk.Sml(b:Bk):Prop where
 rs:b.rs.length<=1000
 cs:b.cs.length<=1000
 gs:∀c∈b.cs,c.gs.length<=1000/\(∀g∈c.gs,g.length<=1000)/\c.af.length<=1000
end Go.TM
namespace Go.Proofs
open Go.TM
variable{T:Type}{S:TM.Sys prog T}{U:Qa T}
attribute [local irreducible] Qb Zl Wt
set_option maxHeartbeats 1000000 in
def xy(h:BH)(b:Bk)(hb:Zq U.frz h b)(hs:b.Sml) :
  Qb S 99 #[h.v] (λ v U'=>(∃X:BH,v=X.v/\QW U' X b U.M)/\(∀x o,U.I x=some o->U'.I x=some o)/\U'.tok=U.tok) U:=by
 have cf:=hb.cs.1;have co:=hb.rs.1;have cp:=hs.rs;have cq:=hs.cs
 have bl:Qb S 99 #[h.v] (λ v U'=>∃(X:BH)(H:List (Cs×JN))(A R Y:List Qx),v=X.v/\H.map (·.1)=b.cs/\(∀p∈H,X4 U' p)/\Jw 49 4 (.slice X.ca X.cl X.cc) (H.flatMap ZB) A/\U'.M=A++(R++(Y++U.M))/\R.Perm (H.flatMap (·.2.F))/\Q5 U'.frz X.ra X.rl 1 b.rs (λ s vs=>vs=[.string s])/\X.rl<=X.rc/\(∀x o,U.I x=some o->U'.I x=some o)/\U'.tok=U.tok) U:=by
  refine Qb.of (args:=[_]) Fa Qf S1 ?_
  repeat refine⟨rfl,?_⟩
  conv=>whnf
  intro B U1 aw hB;have hB:Zi U1 B #[.slice h.ra h.rl h.rc,.slice h.ca h.cl h.cc]:=hB
  conv=>whnf
  intro Q cg;refine⟨_,.refl _,?_⟩;have a3:=Z4 (U:=U1) Q (.cells #[.slice none 0 0,.slice none 0 0] 86);refine⟨_,(hB.lg a3).sees3 (o:=0) rfl,U0.any,(UH h.ra h.rl h.rc b.rs ((hb.rs.lg (aw.lg.frz2.trans a3.frz2) λ _ _ h=>h).lg Qp λ _ _ h=>h) O1).mono ?_⟩;rintro _ U2⟨⟨ra,rl,rc,rfl,P,an⟩,bb⟩-
  conv=>whnf
  intro K ch;refine⟨_,.refl _,rfl,HR (vs:=[.slice ra rl rc,.slice none 0 0]) rfl (by simp[Value.single]) ?_⟩;have bi:=Z4 (U:=U2) K (.cells #[.slice ra rl rc,.slice none 0 0] 25);have aq:U1.lg U2:=a3.trans bb.lg;refine⟨_,(hB.lg (aq.trans bi)).sees3 (o:=1) rfl,?_⟩;have V:U.frz.lg U2.frz:=aw.lg.frz2.trans aq.frz2
  refine⟨Nat×Value,λ y=>[(1,.pointer (some ⟨B,0,none⟩)),(2,.pointer (some ⟨Q,0,none⟩)),(3,.pointer (some ⟨K,0,none⟩)),(13,.slice h.ca h.cl h.cc),(14,.int .i64 h.cl),(15,.int .i64 y.1)],
   λ y U'=>U2.frz.lg U'/\(∃(H:List (Cs×JN))(A R:List Qx),H.map (·.1)=b.cs.take y.1/\(∀p∈H,X4 U' p)/\Jw 49 4 y.2 (H.flatMap ZB) A/\R.Perm (H.flatMap (·.2.F))/\U'.M=A++(R++([.obj K (.cells [.slice ra rl rc,y.2].toArray 25 (0,0)),.obj Q (.cells #[.slice none 0 0,.slice none 0 0] 86 (0,0))]++U.M)))/\y.1<=h.cl,
   λ y=>h.cl-y.1,(0,.slice none 0 0),T1,⟨⟨λ _ _ h=>h,⟨_,(append_nil _).symm⟩,rfl⟩,⟨[],[],[],rfl,S1,.nil,.refl _,?_⟩,O1⟩,?_⟩
  .show _::U2.M=_;rw[bb.own];show _::_::U1.M=_;rw[aw.own];rfl
  rintro⟨i,v⟩f U3⟨L,⟨H,A,R,N,am,E,hR,Z⟩,hi⟩;simp only at N E Z hi;obtain⟨sa,sl,sc,rfl,cr⟩:=E.src;have bv:Zu ((i:Int)+1):=I1
  have bx:H.length=i:=by
   have:=congrArg List.length N;rw[length_map,length_take]at this;omega
  repeat refine⟨rfl,?_⟩
  conv=>whnf
  apply Qe<;>intro hc
  .have hlt:i<h.cl:=by simpa using hc
   obtain⟨ad,c,ga,gl,gc,aa,al,ac,hx,bs,b9,bz,hg,cm,ha,ce,au⟩:=hb.case hlt;obtain⟨cj,bu,ck⟩:=hs.gs c au;have b6:=hg.1;have b4:=ha.1;refine⟨ad,i,⟨bs,rfl,hlt⟩,_,⟨rfl,(bz.lg V).lg L⟩,?_⟩
   conv=>whnf
   intro b5 bt;refine⟨_,.refl _,rfl,Zt (vs:=[.string c.nm,.int .i64 c.ag,.slice ga gl gc,.slice aa al ac]) bt rfl (by simp[Value.single]) λ U4 ax br=>?_⟩;have ae:=ax.own.trans Z;have a1:=L.trans ax.lg;have ao:U.frz.lg U4.frz:=V.trans a1.frz2;have be:=hb.cn c au
   let Ub:Qa T:={ U4 with M:=R++([.obj K (.cells [.slice ra rl rc,.slice sa sl sc].toArray 25 (0,0)),.obj Q (.cells #[.slice none 0 0,.slice none 0 0] 86 (0,0))]++U.M) }
   have bp:Ub.lg U4:=⟨λ _ _ h=>h,⟨A,ae⟩,rfl⟩;have bj:Jn Ub ⟨K,0,none⟩ [.slice ra rl rc,.slice sa sl sc]:=Za R rfl;have bd:Zi Ub b5 #[.string c.nm,.int .i64 c.ag,.slice ga gl gc,.slice aa al ac]:=br
   conv=>whnf
   intro b1 ai
   refine LE (mu:=[1005]) (ops:=Pl Tryz.f99 5) (id:=5) ai Ub bp [3,4] [[0,1,2,3,4]] [5,6,7] LJ yX Qf K1 K1 K1 K1 K1
    (λ f' a6 U'=>a6=[]/\∃(z:Nat)(k:JN),XF f' [(1,.pointer (some ⟨B,0,none⟩)),(2,.pointer (some ⟨Q,0,none⟩)),(3,.pointer (some ⟨K,0,none⟩)),(13,.slice h.ca h.cl h.cc),(14,.int .i64 h.cl),(15,.int .i64 i),(20,.slice sa sl sc),(23,.slice (some ⟨z,0,none⟩) 1 1)]/\X4 U' (c,k)/\Zi U' z (ZB (c,k)).toArray/\U4.frz.lg U'/\U'.M=A++(k.F++(R++([.obj K (.cells [.slice ra rl rc,.slice sa sl sc].toArray 25 (0,0)),.obj Q (.cells #[.slice none 0 0,.slice none 0 0] 86 (0,0))]++U.M)))) ?_ ?_
   .intro l hl;simp only[LJ,mem_cons,not_mem_nil,or_false]at hl;subst hl;refine⟨_,bj.cell (i:=1) rfl,_,⟨rfl,bd.rd⟩,?_⟩;refine⟨λ v U'=>∃k:JN,v=.agg (ZB (c,k)).toArray/\X4 U' (c,k)/\U4.frz.lg U'/\U'.M=A++(k.F++(R++([.obj K (.cells [.slice ra rl rc,.slice sa sl sc].toArray 25 (0,0)),.obj Q (.cells #[.slice none 0 0,.slice none 0 0] 86 (0,0))]++U.M))),λ v U1 U2⟨k,e,hk,hl,Z⟩w=>⟨k,e,hk.lg w.lg.frz2,hl.trans w.lg,w.own.trans Z⟩,λ v U'⟨k,e,hk,hl,Z⟩=>⟨hl.imm,⟨A++k.F,by rw[Z];simp[Ub]⟩,hl.tok⟩,λ U' hC=>?_,λ v hv=>?_⟩
    .have w:=hC;refine⟨Oh.any,(DV c ga aa gl gc al ac (hg.lg (ao.trans w.lg.frz2)) O1 (ha.lg (ao.trans w.lg.frz2)) O1 bu be).mono ?_⟩;rintro v a4⟨⟨k,e,hk,bo⟩,hI,ht⟩-
     have hp:a4.M.Perm (A++(k.F++(R++([.obj K (.cells [.slice ra rl rc,.slice sa sl sc].toArray 25 (0,0)),.obj Q (.cells #[.slice none 0 0,.slice none 0 0] 86 (0,0))]++U.M)))):=by
      rw[bo,w.own,ae];exact perm_append_comm_assoc _ _ _
     exact⟨_,W7 hp,k,e,hk.lg ⟨λ _ _ h=>h,⟨[],rfl⟩,rfl⟩,⟨λ x o hx=>hI x o (w.imm x o hx),⟨_,(append_nil _).symm⟩,ht.trans w.tok⟩,rfl⟩
    obtain⟨_,⟨ct,cv,cu,kv,kF⟩,rfl,bw,-⟩:=hv;obtain⟨a0,l0,c0,e0,-⟩:=bw.af.src;obtain rfl:kv=.slice a0 l0 c0:=e0;refine⟨λ v U'=>∃(z:Nat)(k':JN),v=.slice (some ⟨z,0,none⟩) 1 1/\X4 U' (c,k')/\Zi U' z (ZB (c,k')).toArray/\U4.frz.lg U'/\U'.M=A++(k'.F++(R++([.obj K (.cells [.slice ra rl rc,.slice sa sl sc].toArray 25 (0,0)),.obj Q (.cells #[.slice none 0 0,.slice none 0 0] 86 (0,0))]++U.M))),λ v U1 U2⟨z,k,e,hk,G,hl,Z⟩w=>⟨z,k,e,hk.lg w.lg.frz2,G.le w,hl.trans w.lg,w.own.trans Z⟩,λ v U'⟨z,k,e,hk,G,hl,Z⟩=>⟨hl.imm,⟨A++k.F,by rw[Z];simp[Ub]⟩,hl.tok⟩,λ U' hC=>?_,λ v hv=>?_⟩
    .obtain⟨k',e,ay,az,ab⟩:=hC
     conv=>whnf
     intro z bf;refine Zk bf λ a4 w G=>⟨_,.refl _,z,k',rfl,ay.lg w.lg.frz2,?_,az.trans w.lg,w.own.trans ab⟩;have e':=toArray_inj (Value.agg.inj e);rw[<- e'];exact G
    obtain⟨_,z,k2,rfl,-⟩:=hv
    conv=>whnf
    rintro U'⟨a5,k',e,ay,G,az,ab⟩;obtain rfl:z=a5:=by simpa using e
    exact⟨rfl,z,k',T1,ay,G,az,ab⟩
   rintro f' a6 U5⟨rfl,z,k,bg,hk,G,a2,ba⟩;rw[<- bg.ovr];clear bg;have b7:(H.flatMap ZB).length=i*4:=by rw[Q0 Z0,bx]
   conv=>whnf
   refine Ws (v:=.slice sa sl sc) (cs:=H.flatMap ZB) (new:=ZB (c,k)) (M₀:=k.F++(R++([.obj K (.cells [.slice ra rl rc,.slice sa sl sc].toArray 25 (0,0)),.obj Q (.cells #[.slice none 0 0,.slice none 0 0] 86 (0,0))]++U.M))) Mf rfl rfl (by rw[ba];exact E _) (.inr ⟨_,rfl,G.rd⟩) rfl (by
    have:=hk.af.src;grind[ZB,Value.single]) (by grind[Z0]) λ v' M' bq _=>?_
   obtain⟨av,ab,bc⟩:=bq.split;obtain⟨ta,tl,tc,rfl,-⟩:=bc.src;have bm:({ U5 with M:=M' }:Qa T).M=(av++(k.F++R))++.obj K (.cells [.slice ra rl rc,.slice sa sl sc].toArray 25 (0,0))::.obj Q (.cells #[.slice none 0 0,.slice none 0 0] 86 (0,0))::U.M:=by show M'=_;rw[ab];simp
   refine⟨rfl,WS (i:=1) (v:=.slice ta tl tc) _ bm (by show 1<2;omega) rfl λ U6 a8 bk ah=>?_⟩;have ah:U6.M=av++((k.F++R)++([.obj K (.cells [.slice ra rl rc,.slice ta tl tc].toArray 25 (0,0)),.obj Q (.cells #[.slice none 0 0,.slice none 0 0] 86 (0,0))]++U.M)):=by rw[ah];simp
   have ap:U5.frz.lg U6.frz:=⟨λ x o hx=>by show U6.I x=_;rw[a8];exact hx,⟨[],rfl⟩,bk⟩;have bh:U4.frz.lg U6.frz:=a2.frz2.trans ap;have aj:U3.frz.lg U6.frz:=ax.lg.frz2.trans bh
   conv=>whnf
   intro a' ak;refine⟨by rw[ak.size,ai.size],_,ak.get,?_⟩;rw[ak.ds];clear ak ai;refine⟨bv,rfl,(i+1,.slice ta tl tc),T1,⟨⟨λ x o hx=>aj.imm x o (L.imm x o hx),⟨_,(append_nil _).symm⟩,aj.tok.trans L.tok⟩,⟨H++[(c,k)],av,k.F++R,?_,?_,?_,?_,ah⟩,by grind⟩,by grind⟩
   .rw[map_append,N,Ji hx];rfl
   .intro p hp;rcases mem_append.1 hp with hp|hp
    .exact(am p hp).lg aj
    .rw[mem_singleton.1 hp];exact hk.lg ap
   .simp_all
   .rw[flatMap_append];simp only[flatMap_cons,flatMap_nil,append_nil];exact(Perm.append_left k.F hR).trans perm_append_comm
  .have hge:i=b.cs.length:=by simp at hc;omega
   subst hge;rw[take_length]at N;have bn:U3.M=(A++R)++.obj K (.cells [.slice ra rl rc,.slice sa sl sc].toArray 25 (0,0))::.obj Q (.cells #[.slice none 0 0,.slice none 0 0] 86 (0,0))::U.M:=by rw[Z];simp
   have a9:U3.M=(A++R++[.obj K (.cells [.slice ra rl rc,.slice sa sl sc].toArray 25 (0,0))])++.obj Q (.cells #[.slice none 0 0,.slice none 0 0] 86 (0,0))::U.M:=by rw[Z];simp
   refine⟨_,⟨rfl,Za _ bn⟩,rfl,Wh (vs:=[.slice ra rl rc,.slice sa sl sc]) _ a9 rfl (by simp[Value.single]) λ U4 a7 b0 ae=>?_⟩;have W:U3.frz.lg U4.frz:=⟨λ x o hx=>by show U4.I x=_;rw[a7];exact hx,⟨[],rfl⟩,b0⟩;refine⟨_,⟨rfl,Za _ ae⟩,?_⟩
   conv=>whnf
   exact⟨⟨ra,rl,rc,sa,sl,sc⟩,H,A,R,[_,_],rfl,N,λ p hp=>(am p hp).lg W,E,by rw[ae];simp;exact⟨rfl,rfl⟩,hR,an.lg (L.frz2.trans W) λ _ _ h=>h,P,λ x o hx=>W.imm x o (L.imm x o (V.imm x o hx)),W.tok.trans (L.tok.trans V.tok)⟩
 refine bl.post λ v U'⟨X,H,A,R,Y,hv,N,am,E,Z,hR,an,P,hI,ht⟩=>?_;have b8:=an.1;refine⟨{ U' with M:=A++(R++U.M) },Z1 (by grind),⟨X,hv,⟨⟨H,A,N,λ p hp=>(am p hp).lg ⟨λ _ _ h=>h,⟨[],rfl⟩,rfl⟩,E,Perm.append_left A (Perm.append_right _ hR)⟩,an.lg ⟨λ _ _ h=>h,⟨[],rfl⟩,rfl⟩ λ _ _ h=>h,O1,hb.rn,P⟩⟩,hI,ht⟩
end Go.Proofs
namespace Go.TM
variable{T:Type}{P:Program}{S:Sys P T}{U:Qa T}
def Xe(l:List Int):Prop:=l.Pairwise (·<=·)
def jS{l:List Int}(h:Xr l l.length):Xe l:=by
 rw[Xe,pairwise_iff_getElem];intro i j f e b;exact h i j _ _ b e (getElem?_eq_getElem f) (getElem?_eq_getElem e)
def Pd(n x:Int):∀l:List Int,x∈ZH n l↔x=n\/x∈l
 |[]=>by simp[ZH]
 |y::l=>by
  unfold ZH;split
  .simp only[mem_cons,Pd n x l];constructor
   .rintro(h|h|h) <;> simp[h]
   .rintro(h|h|h) <;> simp[h]
  .simp only[mem_cons]
def OT(n:Int):∀l:List Int,Xe l->Xe (ZH n l)
 |[],_=>by simp[ZH,Xe]
 |y::l,h=>by
  unfold Xe at h;rw[pairwise_cons]at h;unfold ZH;split
  .rename_i hlt;unfold Xe;rw[pairwise_cons];refine⟨λ x b=>?_,OT n l h.2⟩;rcases(Pd n x l).1 b with rfl|b
   .omega
   .exact h.1 x b
  .rename_i hge;unfold Xe;rw[pairwise_cons,pairwise_cons];refine⟨λ x b=>?_,h⟩;rcases mem_cons.1 b with rfl|b
   .omega
   .have:=h.1 x b;omega
def Vw(n:Int):∀l:List Int,(ZH n l).Perm (l++[n])
 |[]=>by simp[ZH]
 |y::l=>by
  unfold ZH;split
  .exact(Vw n l).cons y
  .exact(perm_append_comm (l₁:=[n]) (l₂:=y::l))
def Mv{n:Int}{l l':List Int}(h:Xe l)(e:l'.Perm (l++[n]))(f:Xr l' l'.length):l'=ZH n l:=
 Perm.eq_of_pairwise (le:=(·<=·)) (λ a b _ _ e f=>O1) (jS f) (OT n l h) (e.trans (Vw n l).symm)
def Lz{α:Type}{l:List α}{i:Nat}{a:α}(h:l[i]?=some a):∃X Y,l=X++a::Y/\X.length=i/\∀a',l.set i a'=X++a'::Y:=by
 obtain⟨b,rfl⟩:=List.getElem?_eq_some_iff.1 h;refine⟨l.take i,l.drop (i+1),?_,S3,λ a'=>?_⟩
 .simp_all
 .rw[set_eq_take_append_cons_drop,if_pos b]
end Go.TM
namespace Go.Proofs
open Go.TM
variable{T:Type}{S:TM.Sys prog T}{U:Qa T}
attribute [local irreducible] Qb Zl Wt
def jY(h:BH)(b:Bk)(M₀:List Qx)(ho:QW U h b M₀)(k:Nat)(n:Int)(hk:k<b.cs.length)(aa:Xe (b.cas k).af)(ba:(b.cas k).af.length<=11) :
  Qb S 100 #[h.v,.agg #[.int .i64 k,.int .i64 n]] (λ _ U'=>QW U' h (b.sty ((k:Int),n)) M₀/\(∀x o,U.I x=some o->U'.I x=some o)/\U'.tok=U.tok) U:=by
 obtain⟨ps,A,bc,ah,az,hM⟩:=ho.ex;have bk:k<ps.length:=by rw[<- bc,length_map]at hk;exact hk
 obtain⟨p,hp⟩:∃p,ps[k]?=some p:=⟨_,getElem?_eq_getElem bk⟩;obtain⟨X,Y,rfl,hX,bu⟩:=Lz hp;obtain⟨c,ak,am,al,kv,P⟩:=p
 have a4:b.cas k=c:=by
  have:=congrArg (λ l=>l[k]?) bc;simp only[getElem?_map,hp]at this;simp[Bk.cas,getD_eq_getElem?_getD,<- this]
 rw[a4]at aa ba;have ai:=ah _ (mem_of_getElem? hp);obtain⟨a0,l0,c0,e0,bm⟩:=ai.af.src;obtain rfl:kv=.slice a0 l0 c0:=e0;have hF:Jw 3 1 (.slice a0 l0 c0) (c.af.map λ n=>.int .i64 n) P:=ai.af;obtain⟨cb,cc,ao,an,ab,a6,a7,W,rfl,a5⟩:=az.blk (by simp[ZB]);have bj:h.cl=ao:=by have:=Value.slice.inj ab;exact this.2.1
 have ae:h.ca=some ⟨cb,0,none⟩:=by have:=Value.slice.inj ab;exact this.1
 have a3:h.cc=an:=by have:=Value.slice.inj ab;exact this.2.2
 have Z:k<h.cl:=by
  rw[Q0 Z0]at a6;omega
 have H:U.M.Perm (P++(.obj cb (.cells cc.toList.toArray 49 (0,0))::((X.flatMap (·.2.F)++Y.flatMap (·.2.F))++M₀))):=by
  refine hM.trans ?_;rw[flatMap_append,flatMap_cons];show Perm (.obj cb (.cells cc 49 (0,0))::(X.flatMap (·.2.F)++(P++Y.flatMap (·.2.F))++M₀)) _;refine Perm.trans (Perm.cons _ ?_) perm_middle.symm;rw[<- append_assoc P];refine Perm.append_right _ ?_;rw[<- append_assoc,<- append_assoc];exact Perm.append_right _ perm_append_comm
 have ag:∀j,j<4->cc.toList[k*4+j]?=(ZB (c,⟨ak,am,al,.slice a0 l0 c0,P⟩))[j]?:=by
  intro j hj;have h1:=P9 Z0 hp hj;have h2:∃x,(ZB (c,(⟨ak,am,al,.slice a0 l0 c0,P⟩:JN)))[j]?=some x:=⟨_,getElem?_eq_getElem (by rw[Z0];exact hj)⟩;obtain⟨x,w⟩:=h2;rw[w]at h1 ⊢;rw[Array.getElem?_toList];exact a5 _ _ h1
 refine Qb.shift (W7 H) ?_;generalize aj:(X.flatMap (·.2.F)++Y.flatMap (·.2.F))++M₀=rest at H ⊢;generalize ax:({ U with M:=P++(.obj cb (.cells cc.toList.toArray 49 (0,0))::rest) }:Qa T)=U₀;have au:U₀.M=P++(.obj cb (.cells cc.toList.toArray 49 (0,0))::rest):=by rw[<- ax]
 have br:U.frz.lg U₀.frz:=by rw[<- ax];exact⟨λ _ _ h=>h,⟨[],rfl⟩,rfl⟩
 have be:Qb S 100 #[h.v,.agg #[.int .i64 k,.int .i64 n]] (λ _ U'=>(∃v' K,Jw 3 1 v' ((ZH n c.af).map λ n=>.int .i64 n) K/\v'.single=true/\U'.M=K++(.obj cb (.cells (cc.setIfInBounds (k*4+3) v') 49 (0,0))::rest))/\(∀x o,U₀.I x=some o->U'.I x=some o)/\U'.tok=U₀.tok) U₀:=by
  refine Qb.of (args:=[_,_]) Ig Qf S1 ?_
  repeat refine⟨rfl,?_⟩
  conv=>whnf
  intro B U1 ad hB;have hB:Zi U1 B #[.slice h.ra h.rl h.rc,.slice h.ca h.cl h.cc]:=hB
  conv=>whnf
  intro b3 U2 L G;have G:Zi U2 b3 #[.int .i64 k,.int .i64 n]:=G;have hB:=hB.le L;have Q:U2.M=P++.obj cb (.cells cc.toList.toArray 49 (0,0))::rest:=(ad.trans L).own.trans au;have bn:=Za _ Q
  have bp:U2.sees (((Addr.mk cb 0 none).add (k*4)).add 3) (.slice a0 l0 c0):=by
   have:=bn (k*4+3) (.slice a0 l0 c0) (ag 3 O1);rw[Qo]at this;rw[Qo,Qo,Nat.add_assoc];exact this
  refine⟨_,hB.sees3 (o:=1) rfl,_,G.sees3 (o:=0) rfl,⟨cb,0,none⟩,k,⟨ae,rfl,Z⟩,_,bp,_,G.sees3 (o:=1) rfl,λ v U'=>∃f,v=.slice (some ⟨f,0,none⟩) 1 1/\Zi U' f #[.int .i64 n],λ v U1 U2⟨f,e,hb⟩a9=>⟨f,e,hb.le a9⟩,λ U' a9 hC=>?_,λ v hv=>?_⟩
  .conv=>whnf
   intro f a8;exact Zk a8 λ U3 E hb=>⟨_,.refl _,⟨f,rfl,hb⟩,E⟩
  obtain⟨_,-,-,f,rfl,-⟩:=hv
  conv=>whnf
  intro U3 E hC;obtain⟨-,bs,bf,a1⟩:=hC;cases bf;have av:=E.own.trans Q;have bt:c.af.length=l0:=by simpa using bm
  conv=>whnf
  refine Ws (v:=.slice a0 l0 c0) (cs:=c.af.map λ n=>.int .i64 n) (new:=[.int .i64 n]) (M₀:=.obj cb (.cells cc.toList.toArray 49 (0,0))::rest) Hf rfl rfl (by rw[av];exact hF _) (.inr ⟨_,rfl,a1.rd⟩) rfl (by simp[Value.single]) S3 λ v' M' N _=>?_;have N:Acc 3 1 v' ((c.af++[n]).map λ n=>.int .i64 n) M' (.obj cb (.cells cc.toList.toArray 49 (0,0))::rest):=by simpa using N
  obtain⟨ta,tc,rfl,-⟩:=SY (U:={ U3 with M:=M' }) N;refine⟨IM.any,(wL (U:={ U3 with M:=M' }) _ (c.af++[n]) _ N S3).mono ?_⟩;rintro _ U4⟨ap,bq,l',bb,bo,ay⟩-;have bl:l'=ZH n c.af:=Mv aa bb (by rw[bb.length_eq];exact bo);subst bl;obtain⟨K,bi,ac⟩:=ay.split;have z:∀x o,U2.I x=some o->U4.I x=some o:=λ x o w=>ap x o (E.imm x o w);have bg:=hB.imI z;have a2:=G.imI z;refine⟨_,bg.sees3 (o:=1) rfl,_,a2.sees3 (o:=0) rfl,⟨cb,0,none⟩,k,⟨ae,rfl,Z⟩,rfl,?_⟩;rw[show((Addr.mk cb 0 none).add (k*4)).add 3=(Addr.mk cb 0 none).add (k*4+3) by rw[Qo,Qo,Qo,Nat.add_assoc]];refine WS (i:=k*4+3) (v:=.slice ta (c.af++[n]).length tc) K bi (by grind) rfl λ U5 aq bd aw=>?_;refine⟨⟨_,K,ac,rfl,by rw[aw]⟩,λ x o w=>?_,?_⟩
  .rw[aq];exact z x o ((ad.trans L).imm x o w)
  .rw[bd];exact bq.trans (E.tok.trans (ad.trans L).tok)
 refine be.mono ?_;rintro v U'⟨⟨v',K,ac,bv,bh⟩,hI,ht⟩;have hz:U.frz.lg U'.frz:=br.trans ⟨hI,⟨[],rfl⟩,ht⟩;refine⟨⟨⟨X++({ c with af:=ZH n c.af },⟨ak,am,al,v',K⟩)::Y,[.obj cb (.cells (cc.setIfInBounds (k*4+3) v') 49 (0,0))],?_,?_,?_,?_⟩,ho.rs.lg hz λ _ _ h=>h,ho.rl,ho.rn,ho.rc⟩,hz.imm,hz.tok⟩
 .show _=(b.cs.set (k:Int).toNat { b.cas (k:Int).toNat with af:=ZH n (b.cas (k:Int).toNat).af });grind[Int.toNat_natCast,map_set,ZH]
 .intro q hq;rw[mem_append,mem_cons]at hq;rcases hq with hq|rfl|hq
  .exact(ah q (by simp[hq])).lg hz
  .have:=ai.lg hz
   exact⟨this.gs,this.gl,ac,this.nm,by
    show(ZH n c.af).length<=_;rw[(Vw n c.af).length_eq];simp;omega⟩
  .exact(ah q (by simp[hq])).lg hz
 .rw[ae,bj,a3];refine .ofBlk ?_ a7 (by simp[W]) λ i x w=>?_
  .grind[Q0,Z0]
  .have hlen1:(X.flatMap ZB).length=k*4:=by rw[Q0 Z0,hX]
   rw[Array.getElem?_setIfInBounds];rw[flatMap_append,flatMap_cons]at w;have V:=a5 i;rw[flatMap_append,flatMap_cons]at V;by_cases e:k*4+3=i
   .subst e;rw[if_pos rfl,if_pos (by rw[W];omega)];rw[getElem?_append_right O1,hlen1,Nat.add_sub_cancel_left,getElem?_append_left (by rw[Z0];omega)]at w;exact w
   .rw[if_neg e];refine V x ?_;by_cases h1:i<k*4
    .grind
    .rw[getElem?_append_right O1,hlen1]at w ⊢;by_cases h2:i-k*4<4
     .rw[getElem?_append_left (by rw[Z0];exact h2)]at w ⊢;have:i-k*4=0\/i-k*4=1\/i-k*4=2:=O1
      rcases this with e|e|e <;> rw[e]at w ⊢ <;> exact w
     grind[getElem?_append_right,Z0]
 .rw[bh,<- aj,flatMap_append,flatMap_cons];show Perm _ (.obj cb _::(X.flatMap (·.2.F)++(K++Y.flatMap (·.2.F))++M₀));refine Perm.trans perm_middle (Perm.cons _ ?_);rw[<- append_assoc K];grind[Perm.append_right,append_assoc,perm_append_comm]
end Go.Proofs

