/- Lemmas. No conditions. -/
import Derived.Test.YtajkaognaiglhaaGreatDoorB22
import Derived.Test.YtajkaognaiglhaaGreatDoorB03
set_option linter.all false
set_option maxRecDepth 100000
set_option maxHeartbeats 2000000
open List
open Go.Proofs.Tryz (prog)
namespace Go.TM
open Go.Proofs
variable{b:Bk}{k i n e r:Nat}{o:List Nat}{T κ:Type}{U:Qa T}{c args:Array Value}{t:TypeId}{M' M A M₀:List Q2}{Q:Qa T->Prop}{cs rest:List Value}{P:Program}{d:Sys P T}{f:FuncId}{Y Z:List Int}{z:Value}{s:Nat->Bool}{l:List (κ×Nat)}{p:κ×Value}{q:κ->Bool}{seen:Array Nat}{H:κ×Nat}
def Bk.ords_le(b:Bk)(h:b.cs.length<=5):∀(k:Nat)(o:List Nat),(b.ords k o).length<=5^k:=by
 intro k
 induction k with
 |zero=>intro o;simp[Bk.ords]
 |succ k w=>
  intro o
  have key:∀m,(b.ordsTo k o m).length<=m*5^k:=by
   intro m
   induction m with
   |zero=>simp[Bk.ordsTo]
   |succ m z=>
    rw[b.ordsTo_succ,length_append,Nat.succ_mul]
    have:(if b.can o m then b.ords k (o++[m])else[]).length<=5^k:=by
     split
     .exact w _
     .exact Nat.zero_le _
    omega
  have e:=key b.cs.length;have f:b.cs.length*5^k<=5*5^k:=Nat.mul_le_mul_right _ h;rw[Nat.pow_succ,Nat.mul_comm];exact Nat.le_trans e f
def Bk.all_le(b:Bk)(h:b.cs.length<=5):b.all.length<=3125:=
 Nat.le_trans (b.ords_le h _ _) (Nat.le_trans (Nat.pow_le_pow_right O1 h) D1)
def Bk.wc(b:Bk)(k i:Nat):Nat:=(b.all.take k).countP λ o=>(b.ends o).2.getD i false
def Bk.wc_succ(h:b.all[k]?=some o)(i:Nat):b.wc (k+1) i=b.wc k i+if(b.ends o).2.getD i false then 1 else 0:=by
 unfold Bk.wc;rw[Wm h,countP_append];simp[countP_cons]
def Bk.wc_le(b:Bk)(k i:Nat):b.wc k i<=b.all.length:=Nat.le_trans countP_le_length (by rw[length_take];omega)
def Bk.sc(b:Bk)(k:Nat):List (WV×Nat):=XN ((b.all.take k).map λ o=>six (W8 (b.ends o).1))
def Bk.sc_succ(h:b.all[k]?=some o):b.sc (k+1)=WG (six (W8 (b.ends o).1)) (b.sc k):=by
 unfold Bk.sc;rw[Wm h,map_append,map_singleton,Uu]
def Bk.sc_facts(b:Bk)(k:Nat):(b.sc k).length<=b.all.length/\(∀p∈b.sc k,p.2<=b.all.length)/\∀q:WV->Bool,XQ q (b.sc k)=(b.all.take k).countP λ o=>q (six (W8 (b.ends o).1)):=by
 obtain⟨f,w,z⟩:=B_ _ ((b.all.take k).map λ o=>six (W8 (b.ends o).1)) rfl;have e:((b.all.take k).map λ o=>six (W8 (b.ends o).1)).length<=b.all.length:=S3
 exact⟨Nat.le_trans f e,λ p B=>Nat.le_trans (w p B) e,λ q=>by unfold Bk.sc;rw[z,countP_map];rfl⟩
def Wg(b:Bk)(k i:Nat):List Value:=(range b.cs.length).map λ j=>.int .i64 (b.wc (if j<i then k+1 else k) j:Nat)
def Gj{j:Nat}(h:j<b.cs.length):(Wg b k i)[j]?=some (.int .i64 (b.wc (if j<i then k+1 else k) j:Nat)):=by
 unfold Wg;rw[getElem?_map,getElem?_range h];rfl
def Ym(b:Bk)(k i:Nat):(Wg b k i).length=b.cs.length:=by simp[Wg]
def Ik(b:Bk)(k i:Nat)(h:i<b.cs.length):(Wg b k i).toArray.setIfInBounds i (.int .i64 (b.wc (k+1) i:Nat))=(Wg b k (i+1)).toArray:=by
 apply Array.ext';rw[Array.toList_setIfInBounds];apply ext_getElem?;intro j;rw[getElem?_set];by_cases e:i=j
 .subst e;rw[if_pos rfl,if_pos (by simpa[Wg]using h),Gj h,if_pos O1]
 .rw[if_neg e];by_cases f:j<b.cs.length
  .rw[Gj f,Gj f];have:(j<i)=(j<i+1):=propext O1;simp[this]
  .rw[getElem?_eq_none (by rw[Ym];omega),getElem?_eq_none (by rw[Ym];omega)]
def Ij(b:Bk)(k:Nat):Wg b k b.cs.length=Wg b (k+1) 0:=by
 unfold Wg;refine map_congr_left λ j e=>?_;rw[if_pos (mem_range.1 e),if_neg O1]
def Ct(b:Bk):Wg b 0 0=replicate b.cs.length (.int .i64 0):=by
 apply ext_getElem?;intro j;by_cases e:j<b.cs.length
 .rw[Gj e,getElem?_replicate,if_pos e,if_neg O1];simp[Bk.wc]
 .rw[getElem?_eq_none (by rw[Ym];omega),getElem?_eq_none S3]
def CN(w:i<2^60)(h:n<60):IntKind.wrap .i64 ((BitVec.ofInt (IntKind.bits .i64) (Int.fdiv (i:Int) (2^(min ((n:Int).toNat) (IntKind.bits .i64))))&&&BitVec.ofInt (IntKind.bits .i64) 1).toNat:Int)=((if i.testBit n then 1 else 0:Nat):Int):=by
 have B:i>>>n<2^60:=Nat.lt_of_le_of_lt (Nat.shiftRight_le i n) w;have f:=Ks B (show 1<2^60 by decide);rw[show((1:Nat):Int)=1 from rfl]at f;have E:Int.fdiv (i:Int) (2^(min ((n:Int).toNat) (IntKind.bits .i64)))=((i>>>n:Nat):Int):=Kw h;have e:=HU w h;rw[Kw h,f]at e;rw[E];refine f.trans ?_;congr 1;rw[Nat.and_one_is_mod]at e ⊢;have:i>>>n % 2<2:=Nat.mod_lt _ O1;cases z:i.testBit n with
 |true=>
  rw[z,beq_iff_eq]at e;simp only[if_true];omega
 |false=>
  rw[z]at e;have:=ne_of_beq_false e;simp only[Bool.false_eq_true,if_false];omega
def Ai(f:U.free n)(w:M'.Sublist U.M)(h:∀e:Qa T,(∀x o,U.I x=some o->e.I x=some o)->e.tok=U.tok->e.M=M'->Zo e n c->Q e):∃e,Q1 (U.put n (.cells c t)) e/\Q e:=
 ⟨_,(Wf (b:=n) (M':=U.M) (Perm.refl _)).trans (Z2 (M':=M') w),h _ (GA (o:=.cells c t) f).imm rfl rfl Zo.new⟩
def CV{κ:Type}[DecidableEq κ](k:κ)(z:Value)(l:List (κ×Value)):(lk k (Xe k z l)).getD z=(lk k l).getD z:=by
 unfold Xe;split
 .rfl
 .rename_i h;have w:lk k l=none:=by simpa using h
  rw[w]
  have:∀(l:List (κ×Value))(i:Nat),QM k l i=none->((QM k (l++[(k,z)]) i).map (·.2))=some z:=by
   intro l
   induction l with
   |nil=>intro i _;simp[QM]
   |cons p l B=>
    intro i f;simp only[QM]at f;split at f
    .cases f
    .rename_i e;simp only[cons_append,QM,if_neg e];exact B _ f
  unfold lk at w ⊢;rw[this l 0 (by simpa using w)];rfl
def Ez:∃e,prog.info? 3=some e/\e.zero=some (.int .i64 0)/\e.size=1/\e.bytes=8:=by
 have f:(prog.info? 3).map (·.zero)=some (some (.int .i64 0)):=K1
 have w:(prog.info? 3).map (·.size)=some 1:=K1
 have z:(prog.info? 3).map (·.bytes)=some 8:=K1
 cases h:prog.info? 3 with
 |none=>rw[h]at f;cases f
 |some e=>
  rw[h]at f w z;exact⟨e,rfl,Option.some.inj f,Option.some.inj w,Option.some.inj z⟩
def Y9:Oq prog 87 6:=.of K1
def Pe:prog.underlying 142=some (.map 87 3):=K1
def Vz:WM T prog 87 (λ k:WV=>.agg (Hx k).toArray):=by
 obtain⟨e,E,f,w,z,B,-⟩:=Y9.h;exact WM.arr f w rfl z B (λ k=>rfl) (λ k=>Y5 _) MO λ k=>by simp[Instr.sameBits,Hx,QT]
def UY:Xf prog 51 38 1:=.of K1
def So:List (List (Nat×St)):=[[(0,⟨.ld (.tmp 4),some 27,none,none⟩),(0,⟨.off 1 (.tmp 7),some 28,none,none⟩),(0,⟨.ldn 6 (.tmp 28),some 29,none,none⟩),(2,⟨.rw (.lookup 142 (.tmp 27) (.tmp 29) false) 3,some 30,none,none⟩),(0,⟨.add (.tmp 30) (.const (.int .i64 1)),some 31,none,none⟩),(2,⟨.rw (.mapEntry 142 (.tmp 27) (.tmp 29)) 0,some 32,none,none⟩),(0,⟨.ext (.tmp 32) 1,some 33,none,none⟩)],
 [(0,⟨.ld (.tmp 4),some 27,none,none⟩),(0,⟨.off 1 (.tmp 7),some 28,none,none⟩),(0,⟨.ldn 6 (.tmp 28),some 29,none,none⟩),(2,⟨.rw (.mapEntry 142 (.tmp 27) (.tmp 29)) 0,some 32,none,none⟩),(0,⟨.ext (.tmp 32) 1,some 33,none,none⟩),(2,⟨.rw (.lookup 142 (.tmp 27) (.tmp 29) false) 3,some 30,none,none⟩),(0,⟨.add (.tmp 30) (.const (.int .i64 1)),some 31,none,none⟩)]]
def AV:List St:=[⟨.rw (.entryStore 142 (.tmp 27) (.tmp 33) (.tmp 31)) 0,none,none,none⟩]
def Acc.letgo{v:Value}(h:Acc e n v cs M (A++M₀)):∃M',M'.Sublist M/\Acc e n v cs M' M₀:=by
 rcases h with⟨f,w,z⟩|⟨b,c,len,cap,f,w,B,E,z,F⟩
 .exact⟨M₀,by rw[z];exact sublist_append_right A M₀,.inl ⟨f,w,rfl⟩⟩
 .exact⟨_,by rw[z];exact(sublist_append_right A M₀).cons₂ _,.inr ⟨b,c,len,cap,f,w,B,E,rfl,F⟩⟩
def JT.sublist(f:JT U)(h:M'.Sublist U.M):JT { U with M:=M' }:=λ r e=>f r (h.subset e)
def Qb.lists2{e':Nat}(h:Qb d f args (λ v U'=>∃z B A K,v=.tuple (z::B::rest).toArray/\Acc e' 1 B (Z.map λ n=>.int .i64 n) U'.M K/\Acc e 1 z (Y.map λ n=>.int .i64 n) K (A++U.M)/\(∀x N,U.I x=some N->U'.I x=some N)/\U'.tok=U.tok) U) :
  Qb d f args (λ v U'=>(∃z B,v=.tuple (z::B::rest).toArray/\J1 U'.frz z Y/\J1 U'.frz B Z)/\U.le U') U:=by
 have G:Qb d f args (λ v U'=>∃z B A,v=.tuple (z::B::rest).toArray/\J1 U'.frz B Z/\Acc e 1 z (Y.map λ n=>.int .i64 n) U'.M (A++U.M)/\(∀x N,U.I x=some N->U'.I x=some N)/\U'.tok=U.tok) U:=by
  refine h.sep λ v U' T⟨z,B,A,K,W,P,G,Q,V⟩=>?_;obtain⟨U'',X,E,a,len,cap,rfl,L,w,H,_⟩:=P.freeze (U:={ U' with M:=K }) T (λ _ _ h=>h) rfl;simp at L;exact⟨U'',X,z,_,A,W,⟨a,cap,by rw[L],VS w H⟩,by rw[show U''.M=K from E.own];exact G,λ x o h=>E.imm x o (Q x o h),E.tok.trans V⟩
 refine G.sep λ v U' T⟨z,B,A,W,P,G,Q,V⟩=>?_;obtain⟨M',F,G⟩:=G.letgo;obtain⟨U'',X,E,a,len,cap,rfl,L,w,H,_⟩:=G.freeze (U:={ U' with M:=U.M }) (U':={ U' with M:=M' }) (T.sublist F) (λ _ _ h=>h) rfl;simp at L;have hz:U'.frz.lg U''.frz:=⟨E.imm,⟨[],rfl⟩,E.tok⟩;exact⟨U'',(Z2 F).trans X,⟨_,B,W,⟨a,cap,by rw[L],VS w H⟩,P.lg hz⟩,⟨λ x o h=>E.imm x o (Q x o h),E.own,E.tok.trans V⟩⟩
def Jx(e:TypeId)(n:Nat)(v:Value)(cs:List Value)(A:List Q2):Prop:=∀M₁,Acc e n v cs (A++M₁) M₁
def Acc.split{v:Value}(h:Acc e n v cs M M₀):∃A,M=A++M₀/\Jx e n v cs A:=by
 rcases h with⟨rfl,rfl,rfl⟩|⟨b,c,len,cap,rfl,f,w,z,rfl,B⟩
 .exact⟨[],rfl,λ _=>.inl ⟨rfl,rfl,rfl⟩⟩
 .exact⟨[_],rfl,λ _=>.inr ⟨b,c,len,cap,rfl,f,w,z,rfl,B⟩⟩
def Jx.nil{e n:Nat}:Jx e n .nl [] []:=λ _=>.nil
def Jx.src(h:Jx e n z cs A):∃a l c,z=.slice a l c/\cs.length=l*n:=by
 rcases h []with⟨rfl,rfl,_⟩|⟨b,c,len,cap,rfl,f,_⟩
 .exact⟨none,0,0,rfl,S1⟩
 .exact⟨_,_,_,rfl,f⟩
def Pd{b:Nat}{o e:Obj}{M M':List Q2}(h:J5 b e o M M'):∀A:List Q2,J5 b e o (A++M) (A++M')
 |[]=>h
 |_::A=>.there (Pd h A)
def MP(f:r<6):ZJ (QT s) (QT (Hz s r true))=s r:=by
 rw[Bool.eq_iff_iff,Uw];unfold Hz;constructor
 .intro h;have:=h r f
  rwa [if_pos rfl]at this
 .intro h j _;by_cases e:j=r
  .rw[if_pos e,e,h]
  .rw[if_neg e]
def qi(h:(QH l)[i]?=some p):∃q,l[i]?=some q/\p=(q.1,.int .i64 (q.2:Nat)):=by
 unfold QH at h;rw[getElem?_map]at h;cases e:l[i]? with
 |none=>rw[e]at h;cases h
 |some q=>rw[e]at h;cases h;exact⟨q,rfl,rfl⟩
def FT(h:l[i]?=some H):Xx q l (seen.push i).toList=Xx q l seen.toList+if q H.1 then H.2 else 0:=by
 unfold Xx;rw[Array.toList_push,map_append,sum_append];simp[h]
abbrev ZK:WV->Value:=λ k=>.agg (Hx k).toArray
variable{S:Sys prog T}
section
attribute [local irreducible] Qb Zr W5
def T_(h:BH)(b:Bk)(hb:Zu U.frz h b)(cp:b.Ok):Qb S 52 #[h.v] (λ v U'=>(∃v1 v2,v=.tuple #[v1,v2]/\J1 U'.frz v1 b.fatesR/\J1 U'.frz v2 b.fatesC)/\U.le U') U:=by
 refine Qb.lists2 (e:=38) (e':=38) (rest:=[]) (Qb.of (args:=[_]) YB Qd S1 ?_);have dv:=hb.cs.1;have eo:=hb.rs.1;have d5:=cp.nc;have em:=cp.nr;have hN:=b.all_le d5;obtain⟨i3,ee,ef,eg,et⟩:=Ez
 repeat refine⟨rfl,?_⟩
 conv=>whnf
 intro B U1 bh hB;have hB:=Zz4 h hB
 conv=>whnf
 refine P6 ZK λ mb d3=>?_
 conv=>whnf
 intro b4 c7;refine⟨_,.refl _,rfl,Zy (vs:=[.map (some mb)]) c7 rfl (by simp[Value.single]) λ U2 ch bj=>?_⟩;have W:U1.lg U2:=(Z6 mb _).trans ch.lg;refine⟨_,(hB.lg W).sees3 (o:=1) rfl,?_⟩
 conv=>whnf
 refine S9 (n:=h.cl) Pr ee ef rfl eg O1 rfl rfl O1 λ F ed=>?_
 conv=>whnf
 intro b5 c8;refine⟨_,.refl _,rfl,Zy (vs:=[.slice (some ⟨F,0,none⟩) h.cl h.cl]) c8 rfl (by simp[Value.single]) λ U3 cj bk=>?_⟩;have X:U2.lg U3:=(Z6 F _).trans cj.lg
 conv=>whnf
 intro P dx;refine⟨_,.refl _,rfl,HR (vs:=[.int .i64 0]) rfl (by simp[Value.single]) ?_⟩;have aa:=Z6 (U:=U3) P (.cells #[.int .i64 0] 3);refine⟨_,⟨rfl,(hB.lg (W.trans (X.trans aa))).rd⟩,?_⟩;refine⟨YC.any,(Sf h b ((hb.lg bh.lg.frz2).lg (Qy.trans (W.trans (X.trans aa))))).mono ?_⟩;rintro _ U4⟨⟨B',rfl,cu⟩,az⟩-;have aj:U1.lg U4:=W.trans (X.trans (aa.trans az.lg));have bj:Zo U4 b4 #[.map (some mb)]:=bj.lg (X.trans (aa.trans az.lg));have bk:Zo U4 b5 #[.slice (some ⟨F,0,none⟩) h.cl h.cl]:=bk.lg (aa.trans az.lg)
 have dp:U4.M=.obj P (.cells #[.int .i64 ((0:Nat):Int)] 3 (0,0))::.obj F (.cells (Wg b 0 0).toArray 3 (0,0))::.obj mb (Q0 ZK (QH (b.sc 0)))::U.M:=by
  rw[az.own,Ct,dv];show _::U3.M=_;rw[cj.own];show _::_::U2.M=_;rw[ch.own];show _::_::_::U1.M=_;rw[bh.own];rfl
 have bz:U.frz.lg U4.frz:=bh.lg.frz2.trans aj.frz2;have d9:U4.tok=U.tok:=aj.tok.trans bh.tok;have bm:∀l N,U4.frz.lg N->Kg S 84 #[.func (.yield l) #[] #[],.pb B'] l b.all.length (G5 b) N:=λ l N hl=>TN h b (hb.lg (bz.trans hl.frz2)) cp (cu.imI hl.imm);clear cu aa X W ed c7 c8 dx d3 ch cj az
 conv=>whnf
 let Inv:Nat->Qa T->Prop:=λ k U'=>U4.frz.lg U'/\U'.M=.obj P (.cells #[.int .i64 (k:Nat)] 3 (0,0))::.obj F (.cells (Wg b k 0).toArray 3 (0,0))::.obj mb (Q0 ZK (QH (b.sc k)))::U.M
 refine Db Qd b.all.length (G5 b) Inv (λ _ _=>False) (λ _=>False) rfl rfl YJ.any bm ?_ ?_ ⟨Qy,dp⟩ ?_ ?_ ?_ ?_
 .rintro k p U' ⟨o,v,-,rfl,-⟩;rfl
 .rintro k U' U'' w ⟨hl,hM⟩;exact⟨Oe hl w,w.own.trans hM⟩
 .rintro l A' Bd D k p U₀ KN KX KR KA hk ⟨o,v,ho,rfl,a,cap,rfl,hio,hcap,hsp⟩ ⟨hl,hM⟩ hKN hKX hKR hKA
  conv=>whnf
  intro b7 c9;refine⟨_,.refl _,rfl,Zy (vs:=QZ (.slice a o.length cap) (W8 (b.ends o).1) (J4 (b.ends o).2)) c9 rfl (by simp[QZ,Value.single]) λ N bi bw=>?_⟩
  conv=>whnf
  have e1:N=({ N with M:=U₀.M }:Qa T).on A' D:=by
   have:=bi.own;obtain⟨i1,m1,t1⟩:=N;simp only[Qa.on]at this ⊢;rw[this]
  rw[e1];refine hKA _ _ ?_;have bg:(({ N with M:=U₀.M }:Qa T).on Bd D).M=[Bd,D]++(.obj P (.cells #[.int .i64 (k:Nat)] 3 (0,0))::.obj F (.cells (Wg b k 0).toArray 3 (0,0))::.obj mb (Q0 ZK (QH (b.sc k)))::U.M):=by show Bd::D::U₀.M=_;rw[hM];rfl
  have cf:∀x o,U₀.I x=some o->(({ N with M:=U₀.M }:Qa T).on Bd D).I x=some o:=λ x o h=>bi.imm x o h;have au:Zo (({ N with M:=U₀.M }:Qa T).on Bd D) b7 (QZ (.slice a o.length cap) (W8 (b.ends o).1) (J4 (b.ends o).2)).toArray:=bw;have cq:(({ N with M:=U₀.M }:Qa T).on Bd D).tok=U₀.tok:=bi.tok;generalize(({ N with M:=U₀.M }:Qa T).on Bd D)=U6 at bg cf au cq ⊢;clear e1 bi bw c9;refine⟨_,Ze [Bd,D] bg 0 _ rfl,I1,?_⟩;refine⟨rfl,Wk (vs:=[.int .i64 ((k:Int)+1)]) [Bd,D] bg rfl (by simp[Value.single]) λ U7 ay b8 al=>?_⟩;have bf:∀x o,U₀.I x=some o->U7.I x=some o:=λ x o h=>by rw[ay];exact cf x o h
  have au:Zo U7 b7 (QZ (.slice a o.length cap) (W8 (b.ends o).1) (J4 (b.ends o).2)).toArray:=au.imI λ x o h=>by rw[ay];exact h
  have br:Zo U7 b4 #[.map (some mb)]:=bj.imI λ x o h=>bf x o (hl.imm x o h);have bs:Zo U7 b5 #[.slice (some ⟨F,0,none⟩) h.cl h.cl]:=bk.imI λ x o h=>bf x o (hl.imm x o h);have di:U7.tok=U₀.tok:=b8.trans cq;obtain⟨dd,an,-⟩:=b.sc_facts k;have dw:JJ (six (W8 (b.ends o).1)) (b.sc k)<=3125:=Nat.le_trans (OR _ _ an) hN;have dz:∀q:WV,ZK q=.agg (Hx q).toArray:=λ _=>rfl;have af:Value.agg (QT (W8 (b.ends o).1)).toArray=ZK (six (W8 (b.ends o).1)):=by rw[dz,LM]
  have ao:=@M_ Nat (0,.nl) _ _ (six (W8 (b.ends o).1)) (.int .i64 0) (.int .i64 ((JJ (six (W8 (b.ends o).1)) (b.sc k)+1:Nat):Int)) (QH (b.sc k));rw[Tg,<- b.sc_succ ho]at ao;have a8:Je ((JJ (six (W8 (b.ends o).1)) (b.sc k):Nat)+1:Int):=I1
  have bd:Ju U7.frz ((Addr.mk b7 0 none).add 1) (QT (W8 (b.ends o).1)):=
   ((au.imI (U':=U7.frz) λ _ _ h=>h).reads (vs:=QZ (.slice a o.length cap) (W8 (b.ends o).1) (J4 (b.ends o).2)) (λ k v hv=>by simpa using hv)).sub (o:=1) (n:=6)
  have a0:Zo U7.frz b4 #[.map (some mb)]:=br.imI λ _ _ h=>h;generalize hK:six (W8 (b.ends o).1)=ky at dw af ao a8
  let F0:Qa T->Prop:=λ U'=>U7.frz.lg U'/\U'.M=U7.M
  let F1:Qa T->Prop:=λ U'=>U7.frz.lg U'/\U'.M=[Bd,D]++(.obj P (.cells #[.int .i64 ((k:Int)+1)] 3 (0,0))::.obj F (.cells (Wg b k 0).toArray 3 (0,0))::.obj mb (Q0 ZK (Xe ky (.int .i64 0) (QH (b.sc k))))::U.M)
  conv=>whnf
  intro ac a6
  refine YM (mu:=[]) (ops:=PN Tryz.f52 7) (id:=7) a6 [3,5] [[0,1,2,3,4,5,6],[0,1,2,5,6,3,4]] [7] So AV Qd K1 K1 K1 K1 K1
   (λ f' ct U'=>ct=[]/\XH f' [(5,.pb b5),(7,.pb b7),(27,.map (some mb)),(31,.int .i64 ((JJ ky (b.sc k):Nat)+1:Int)),(33,.int .i64 (Ha ky (QH (b.sc k)):Nat))]/\F1 U') ?_ ?_
  .intro l hl;simp only[So,mem_cons,not_mem_nil,or_false]at hl;rcases hl with rfl|rfl
   .skip
    refine⟨_,a0.sees3 (o:=0) rfl,_,⟨rfl,bd⟩,λ v U'=>v=.int .i64 (JJ ky (b.sc k):Nat)/\F0 U',λ v U1 U2 G w=>⟨G.1,G.2.1.trans w.lg,w.own.trans G.2.2⟩,λ v U' G=>G.2.1,λ U' hC=>?_,λ v hv=>?_⟩
    .have H:U'.M=U7.M:=hC.own;have E:U7.frz.lg U':=⟨hC.imm,Zz3,hC.tok⟩
     conv=>whnf
     refine KW (k:=ky) (l:=QH (b.sc k)) Vz Pe HO rfl af (.inr (by rw[H,al];simp)) ?_;rw[Kd];exact⟨_,.refl _,rfl,E,H⟩
    obtain⟨_,rfl,-⟩:=hv;refine⟨a8,λ v U'=>v=.tuple #[.int .i64 (JJ ky (b.sc k):Nat),.int .i64 (Ha ky (QH (b.sc k)):Nat)]/\F1 U',λ v U1 U2 G w=>⟨G.1,G.2.1.trans w.lg,w.own.trans G.2.2⟩,λ v U' G=>G.2.1,λ U' hC=>?_,λ v hv=>?_⟩
    .obtain⟨-,E,H⟩:=hC
     conv=>whnf
     refine Sa (k:=ky) (l:=QH (b.sc k)) (z:=.int .i64 0) (M':=[Bd,D]++(.obj P (.cells #[.int .i64 ((k:Int)+1)] 3 (0,0))::.obj F (.cells (Wg b k 0).toArray 3 (0,0))::.obj mb (Q0 ZK (Xe ky (.int .i64 0) (QH (b.sc k))))::U.M)) Vz Pe HO rfl af (by rw[H,al];exact .there (.there (.there (.there .here)))) ?_;rw[Kd];exact⟨_,.refl _,rfl,⟨E.imm,Zz3,E.tok⟩,rfl⟩
    obtain⟨_,rfl,-⟩:=hv
    conv=>whnf
    rintro U'⟨-,G⟩;exact⟨rfl,T1,G⟩
   .skip
    refine⟨_,a0.sees3 (o:=0) rfl,_,⟨rfl,bd⟩,λ v U'=>v=.tuple #[.int .i64 (JJ ky (b.sc k):Nat),.int .i64 (Ha ky (QH (b.sc k)):Nat)]/\F1 U',λ v U1 U2 G w=>⟨G.1,G.2.1.trans w.lg,w.own.trans G.2.2⟩,λ v U' G=>G.2.1,λ U' hC=>?_,λ v hv=>?_⟩
    .have H:U'.M=U7.M:=hC.own;have E:U7.frz.lg U':=⟨hC.imm,Zz3,hC.tok⟩
     conv=>whnf
     refine Sa (k:=ky) (l:=QH (b.sc k)) (z:=.int .i64 0) (M':=[Bd,D]++(.obj P (.cells #[.int .i64 ((k:Int)+1)] 3 (0,0))::.obj F (.cells (Wg b k 0).toArray 3 (0,0))::.obj mb (Q0 ZK (Xe ky (.int .i64 0) (QH (b.sc k))))::U.M)) Vz Pe HO rfl af (by rw[H,al];exact .there (.there (.there (.there .here)))) ?_;rw[Kd];exact⟨_,.refl _,rfl,⟨E.imm,Zz3,E.tok⟩,rfl⟩
    obtain⟨_,rfl,-⟩:=hv;refine⟨λ v U'=>v=.int .i64 (JJ ky (b.sc k):Nat)/\F1 U',λ v U1 U2 G w=>⟨G.1,G.2.1.trans w.lg,w.own.trans G.2.2⟩,λ v U' G=>G.2.1,λ U' hC=>?_,λ v hv=>?_⟩
    .obtain⟨-,E,H⟩:=hC
     conv=>whnf
     refine KW (k:=ky) (l:=Xe ky (.int .i64 0) (QH (b.sc k))) Vz Pe HO rfl af (.inr (by rw[H];simp)) ?_;rw[CV,Kd];exact⟨_,.refl _,rfl,E,H⟩
    obtain⟨_,rfl,-⟩:=hv;refine⟨a8,?_⟩
    conv=>whnf
    rintro U'⟨-,G⟩;exact⟨rfl,T1,G⟩
  rintro f' ct U8⟨rfl,da,Y,bp⟩;rw[<- da.ovr];clear da;have dq:List Q2:=[Bd,D]++(.obj P (.cells #[.int .i64 ((k:Int)+1)] 3 (0,0))::.obj F (.cells (Wg b k 0).toArray 3 (0,0))::.obj mb (Q0 ZK (QH (b.sc (k+1))))::U.M)
  conv=>whnf
  refine R8 (n:=Ha ky (QH (b.sc k))) (l:=Xe ky (.int .i64 0) (QH (b.sc k))) (v:=.int .i64 ((JJ ky (b.sc k)+1:Nat):Int)) (M':=[Bd,D]++(.obj P (.cells #[.int .i64 ((k:Int)+1)] 3 (0,0))::.obj F (.cells (Wg b k 0).toArray 3 (0,0))::.obj mb (Q0 ZK (QH (b.sc (k+1))))::U.M)) rfl rfl ao.2 rfl (by rw[bp,ao.1];exact .there (.there (.there (.there .here)))) ?_
  conv=>whnf
  intro a' bl;refine⟨by rw[bl.size,a6.size],_,bl.get,?_⟩;rw[bl.ds];clear bl a6;have bv:=au.imI Y.imm;have bt:=bs.imI Y.imm;have bo:∀x o,U₀.I x=some o->U8.I x=some o:=λ x o h=>Y.imm x o (bf x o h);have b9:U8.tok=U₀.tok:=Y.tok.trans di;generalize aq:({ U8 with M:=[Bd,D]++(.obj P (.cells #[.int .i64 ((k:Int)+1)] 3 (0,0))::.obj F (.cells (Wg b k 0).toArray 3 (0,0))::.obj mb (Q0 ZK (QH (b.sc (k+1))))::U.M) }:Qa T)=U9;have cx:U9.M=[Bd,D]++(.obj P (.cells #[.int .i64 ((k:Int)+1)] 3 (0,0))::.obj F (.cells (Wg b k 0).toArray 3 (0,0))::.obj mb (Q0 ZK (QH (b.sc (k+1))))::U.M):=by rw[<- aq]
  have cw:∀x o,U₀.I x=some o->U9.I x=some o:=by rw[<- aq];exact bo
  have c4:Zo U9 b7 (QZ (.slice a o.length cap) (W8 (b.ends o).1) (J4 (b.ends o).2)).toArray:=by rw[<- aq];exact bv
  have bu:Zo U9 b5 #[.slice (some ⟨F,0,none⟩) h.cl h.cl]:=by rw[<- aq];exact bt
  have dh:U9.tok=U₀.tok:=by rw[<- aq];exact b9
  clear aq dq bp Y bv bt bo b9 a0 bd br bs au al ay bf b8 di bg cf cq F0 F1;have d2:=b.ends_len o;have ec:J4 (b.ends o).2<2^5:=YX _ O1;have dj:J4 (b.ends o).2<2^60:=Nat.lt_trans ec D1;refine⟨_,bu.sees3 (o:=0) rfl,Nat,λ i=>[(5,.pb b5),(7,.pb b7),(35,.int .i64 h.cl),(36,.int .i64 i)],
   λ i U'=>U9.frz.lg U'/\U'.M=[Bd,D]++(.obj P (.cells #[.int .i64 ((k:Int)+1)] 3 (0,0))::.obj F (.cells (Wg b k i).toArray 3 (0,0))::.obj mb (Q0 ZK (QH (b.sc (k+1))))::U.M)/\i<=h.cl,λ i=>h.cl-i,0,T1,⟨Qy,cx,O1⟩,?_⟩
  rintro i f Ua⟨V,ab,hi⟩;have a7:Je ((i:Int)+1):=I1
  repeat refine⟨rfl,?_⟩
  conv=>whnf
  apply Qe<;>intro hc
  .have av:i<h.cl:=by simpa using hc
   have es:=b.wc_le k i;have ag:=Gj (b:=b) (k:=k) (i:=i) (j:=i) O1;rw[if_neg O1]at ag
   have cr:Ua.sees ((Addr.mk F 0 none).add (i*1)) (.int .i64 (b.wc k i:Nat)):=by
    rw[Nat.mul_one];exact Ze [Bd,D,_] ab i _ ag
   have ck:=CN dj (show i<60 by omega);rw[Pv]at ck
   have db:Je ((b.wc k i:Nat)+IntKind.wrap .i64 ((BitVec.ofInt (IntKind.bits .i64) (Int.fdiv (J4 (b.ends o).2:Int) (2^(min ((i:Int).toNat) (IntKind.bits .i64))))&&&BitVec.ofInt (IntKind.bits .i64) 1).toNat:Int)):=by
    rw[ck];unfold Je;split <;> omega
   have e2:((b.wc k i:Nat):Int)+IntKind.wrap .i64 ((BitVec.ofInt (IntKind.bits .i64) (Int.fdiv (J4 (b.ends o).2:Int) (2^(min ((i:Int).toNat) (IntKind.bits .i64))))&&&BitVec.ofInt (IntKind.bits .i64) 1).toNat:Int)=((b.wc (k+1) i:Nat):Int):=by
    rw[ck,b.wc_succ ho i];simp
   refine⟨_,(bu.imI V.imm).sees3 (o:=0) rfl,⟨F,0,none⟩,i,⟨rfl,rfl,av⟩,_,cr,_,(c4.imI V.imm).sees3 (o:=7) rfl,O1,rfl,?_⟩
   conv=>whnf
   intro Ub L _;have Q:=L.own.trans ab;refine⟨db,?_⟩;rw[e2];refine⟨⟨F,0,none⟩,i,⟨rfl,rfl,av⟩,rfl,?_⟩;rw[Nat.mul_one];refine WS (i:=i) (v:=.int .i64 (b.wc (k+1) i:Nat)) [Bd,D,_] Q (by simp[Wg];omega) rfl λ Uc dl ea ap=>?_;rw[Ik b k i O1]at ap;have d1:U9.frz.lg Uc:=⟨λ x o h=>by rw[dl];exact L.imm x o (V.imm x o h),Zz3,ea.trans (L.tok.trans V.tok)⟩;refine⟨a7,?_⟩
   conv=>whnf
   exact⟨rfl,i+1,T1,⟨d1,ap,O1⟩,L1⟩
  .have hge:i=b.cs.length:=by simp at hc;omega
   subst hge;rw[Ij]at ab
   have e3:Ua=({ Ua with M:=.obj P (.cells #[.int .i64 ((k:Int)+1)] 3 (0,0))::.obj F (.cells (Wg b (k+1) 0).toArray 3 (0,0))::.obj mb (Q0 ZK (QH (b.sc (k+1))))::U.M }:Qa T).on Bd D:=by
    obtain⟨i1,m1,t1⟩:=Ua;simp only[Qa.on]at ab ⊢;rw[ab];rfl
   have dc:U₀.frz.lg ({ Ua with M:=.obj P (.cells #[.int .i64 ((k:Int)+1)] 3 (0,0))::.obj F (.cells (Wg b (k+1) 0).toArray 3 (0,0))::.obj mb (Q0 ZK (QH (b.sc (k+1))))::U.M }:Qa T):=⟨λ x o h=>V.imm x o (cw x o h),Zz3,V.tok.trans dh⟩;have d0:=hl.frz2.trans dc
   conv=>whnf
   rw[e3];exact hKN _ _ _ dc ⟨d0,rfl⟩
 .rintro d l OA U3' ⟨hl,hM⟩;have cg:(U3'.on (.obj l OA) (.obj d (.deferred (some [])))).M=[.obj l OA,.obj d (.deferred (some []))]++(.obj P (.cells #[.int .i64 (b.all.length:Nat)] 3 (0,0))::.obj F (.cells (Wg b b.all.length 0).toArray 3 (0,0))::.obj mb (Q0 ZK (QH (b.sc b.all.length)))::U.M):=by show _::_::U3'.M=_;rw[hM];rfl
  have ax:∀x o,U4.I x=some o->(U3'.on (.obj l OA) (.obj d (.deferred (some [])))).I x=some o:=hl.imm;have df:(U3'.on (.obj l OA) (.obj d (.deferred (some [])))).tok=U4.tok:=hl.tok;generalize(U3'.on (.obj l OA) (.obj d (.deferred (some []))))=N at cg ax df ⊢;have dk:Zo N B #[.slice h.ra h.rl h.rc,.slice h.ca h.cl h.cc]:=hB.imI λ x o h=>ax x o (aj.imm x o h);have c2:Zo N b4 #[.map (some mb)]:=bj.imI ax;have c3:Zo N b5 #[.slice (some ⟨F,0,none⟩) h.cl h.cl]:=bk.imI ax;have cv:∀x o,U.I x=some o->N.I x=some o:=λ x o h=>ax x o (bz.imm x o h);have dg:N.tok=U.tok:=df.trans d9;obtain⟨dd,an,b3⟩:=b.sc_facts b.all.length;rw[take_length]at b3;generalize aw:[.obj l OA,.obj d (.deferred (some []))]++(.obj P (.cells #[.int .i64 (b.all.length:Nat)] 3 (0,0))::.obj F (.cells (Wg b b.all.length 0).toArray 3 (0,0))::.obj mb (Q0 ZK (QH (b.sc b.all.length)))::U.M)=Ba at cg;have bb:Q2.obj mb (Q0 ZK (QH (b.sc b.all.length)))∈Ba:=by rw[<- aw];simp
  clear hl hM bm Inv;refine⟨_,dk.sees3 (o:=0) rfl,Nat×Value,λ y=>[(2,y.2),(3,.nl),(4,.pb b4),(5,.pb b5),(6,.pb P),(54,.int .i64 h.rl),(55,.int .i64 y.1)],
   λ y U'=>N.frz.lg U'/\(∃A,U'.M=A++Ba/\Jx 38 1 y.2 (((range y.1).map b.fatR).map λ n=>.int .i64 n) A)/\y.1<=h.rl,λ y=>h.rl-y.1,(0,.nl),T1,⟨Qy,⟨[],cg,.nil⟩,O1⟩,?_⟩
  rintro⟨r,v⟩f Ua⟨V,⟨A,ab,Z⟩,hr⟩;simp only at Z hr;obtain⟨sa,sl,sc,rfl,ep⟩:=Z.src;have a7:Je ((r:Int)+1):=I1
  repeat refine⟨rfl,?_⟩
  conv=>whnf
  apply Qe<;>intro hc
  .have hrt:r<h.rl:=by simpa using hc
   have ak:r<6:=O1
   refine⟨_,(c2.imI V.imm).sees3 (o:=0) rfl,?_⟩
   conv=>whnf
   refine Y4 (enc:=ZK) (l:=QH (b.sc b.all.length)) Pe rfl (.inr (by rw[ab];exact mem_append_right _ bb)) λ it ei=>?_
   refine⟨Array Nat,λ seen=>[(2,.slice sa sl sc),(3,.nl),(4,.pb b4),(5,.pb b5),(6,.pb P),(9,.int .i64 r),(10,.int .i64 (Xx (λ k:WV=>W8 k.1 r) (b.sc b.all.length) seen.toList:Nat)),(54,.int .i64 h.rl),(55,.int .i64 r),(59,.pb it)],
    λ seen U'=>N.frz.lg U'/\U'.M=.obj it (J2 mb (QH (b.sc b.all.length)).length seen)::(A++Ba)/\seen.toList.Nodup/\∀i∈seen.toList,i<(b.sc b.all.length).length,λ seen=>(b.sc b.all.length).length-seen.size,#[],T1,⟨V.trans (Z6 _ _),by show _::Ua.M=_;rw[ab],S1,S1⟩,?_⟩
   rintro seen f Ub⟨L,Q,co,av⟩
   have d8:seen.size<=(b.sc b.all.length).length:=by
    have:=Xi co av;simpa using this
   have ej:=Tc (q:=λ k:WV=>W8 k.1 r) an seen.toList;have d4:seen.toList.length*b.all.length<=3125*3125:=Nat.mul_le_mul (by rw[Array.length_toList];omega) hN
   conv=>whnf
   refine YR (enc:=ZK) (l:=QH (b.sc b.all.length)) (λ o=>.obj it o::(A++Ba)) rfl (.inr (by rw[Q];exact mem_cons_of_mem _ (mem_append_right _ bb))) (λ o=>by rw[Q];exact .here) (λ c1=>?_) (λ i p hp d6=>?_)
   .have hfin:Xx (λ k:WV=>W8 k.1 r) (b.sc b.all.length) seen.toList=b.all.countP λ o=>(b.ends o).1.getD r false:=by
     rw[Ly co av (λ i hi=>by have:=c1 i (by rw[MX];exact hi);simpa using this),b3];congr 1;funext o;exact Tv _ ak
    have be:WC (Xx (λ k:WV=>W8 k.1 r) (b.sc b.all.length) seen.toList) b.all.length=b.fatR r:=by rw[hfin];rfl
    have du:=Ze (U:=Ub) (b:=P) (e:=3) (vs:=[.int .i64 (b.all.length:Nat)]) (.obj it (J2 mb (QH (b.sc b.all.length)).length seen)::(A++[.obj l OA,.obj d (.deferred (some []))])) (by rw[Q,<- aw];simp;rfl)
    repeat refine⟨rfl,?_⟩
    refine⟨_,du 0 _ rfl,YI.any,(Sq _ _).go λ _=>?_⟩;rw[be]
    conv=>whnf
    intro bn cm;refine Ai (M':=A++Ba) cm (by rw[Q];exact sublist_cons_self ..) λ Ud dm eb dr ai=>?_;have ai:Zo Ud bn #[.int .i64 (b.fatR r)]:=ai;have a9:N.frz.lg Ud:=⟨λ x o h=>dm x o (L.imm x o h),Zz3,eb.trans L.tok⟩
    conv=>whnf
    refine Wv (v:=.slice sa sl sc) (cs:=((range r).map b.fatR).map λ n=>.int .i64 n) (new:=[.int .i64 (b.fatR r)]) (M₀:=Ba) UY rfl rfl (by rw[dr];exact Z _) (.inr ⟨_,rfl,ai.rd⟩) rfl (by simp[Value.single]) S3 λ v' M' ah _=>?_;have ah:Acc 38 1 v' (((range (r+1)).map b.fatR).map λ n=>.int .i64 n) M' Ba:=by rw[range_succ];simpa using ah
    obtain⟨ce,H,ae⟩:=ah.split;obtain⟨ta,tl,tc,rfl,-⟩:=ae.src;refine⟨a7,?_⟩
    conv=>whnf
    exact⟨rfl,(r+1,.slice ta tl tc),T1,⟨⟨a9.imm,Zz3,a9.tok⟩,⟨ce,H,ae⟩,by show r+1<=h.rl;omega⟩,L1⟩
   .obtain⟨q,hq,rfl⟩:=qi hp;have en:q.2<=3125:=Nat.le_trans (an q (mem_of_getElem? hq)) hN;have dy:=(List.getElem?_eq_some_iff.1 hq).1;have ad:=FT (q:=λ k:WV=>W8 k.1 r) (seen:=seen) hq
    have bc:(seen.push i).toList.Nodup:=by
     rw[Array.toList_push,nodup_append];refine⟨co,S1,λ x hx y hy=>?_⟩;rw[mem_singleton.1 hy];rintro rfl;exact d6 (by simpa using hx)
    have ba:∀j∈(seen.push i).toList,j<(b.sc b.all.length).length:=by
     intro j hj;rw[Array.toList_push,mem_append]at hj;rcases hj with hj|hj
     .exact av j hj
     .rw[mem_singleton.1 hj];exact dy
    have bx:(b.sc b.all.length).length-(seen.push i).size<(b.sc b.all.length).length-seen.size:=by
     have:=Xi bc ba;rw[Array.length_toList,Array.size_push]at this;rw[Array.size_push];omega
    have b0:N.frz.lg ({ Ub with M:=.obj it (J2 mb (QH (b.sc b.all.length)).length (seen.push i))::(A++Ba) }:Qa T):=⟨L.imm,Zz3,L.tok⟩;generalize cz:({ Ub with M:=.obj it (J2 mb (QH (b.sc b.all.length)).length (seen.push i))::(A++Ba) }:Qa T)=Uc at b0 ⊢;have ap:Uc.M=.obj it (J2 mb (QH (b.sc b.all.length)).length (seen.push i))::(A++Ba):=by rw[<- cz]
    clear cz
    repeat refine⟨rfl,?_⟩
    conv=>whnf
    refine Y3 (enc:=ZK) (l:=QH (b.sc b.all.length)) rfl (.inr (by rw[ap];exact mem_cons_of_mem _ (mem_append_right _ bb))) (.inr (by rw[ap];exact mem_cons_self ..)) hp ?_
    conv=>whnf
    intro ek c5;refine⟨_,.refl _,rfl,Zy (vs:=QT (W8 q.1.1)) c5 rfl (KM _) λ Ud dt am=>?_⟩;refine⟨_,⟨rfl,am.rd⟩,?_⟩
    conv=>whnf
    intro el c6;refine⟨_,.refl _,rfl,HR (vs:=QT (W8 q.1.1)) rfl (KM _) ?_⟩;refine⟨r,⟨rfl,ak⟩,rfl,?_⟩;rw[Nat.mul_one];refine MW (c:=(QT (W8 q.1.1)).toArray) (v:=.bool true) c6 ak rfl λ Ue c0 bq=>?_;rw[E8 _ ak]at bq;have am:=am.le c0;have b2:=dt.trans c0;refine⟨_,⟨rfl,am.rd⟩,?_⟩;refine⟨_,⟨rfl,bq.rd⟩,?_⟩
    conv=>whnf
    obtain⟨eT,eh,a1,a2,a3,a4,a5⟩:=Y9.h;refine Nd a1 a2 rfl a3 a4 a5 (vs:=QT (W8 q.1.1)) (ws:=QT (Hz (W8 q.1.1) r true)) rfl rfl rfl rfl (Y5 _) (Y5 _) ?_;rw[MP ak];have cy:=b2.own.trans ap;have b1:N.frz.lg Ue:=b0.trans b2.lg;cases de:W8 q.1.1 r with
    |true=>
     rw[if_pos de]at ad;refine⟨I1,?_⟩
     conv=>whnf
     exact⟨rfl,seen.push i,⟨rfl,rfl,rfl,rfl,rfl,rfl,by rw[ad];rfl,rfl,rfl,rfl,trivial⟩,⟨b1,cy,bc,ba⟩,bx⟩
    |false=>
     rw[if_neg (by rw[de];simp),Nat.add_zero]at ad
     conv=>whnf
     exact⟨rfl,seen.push i,⟨rfl,rfl,rfl,rfl,rfl,rfl,by rw[ad];rfl,rfl,rfl,rfl,trivial⟩,⟨b1,cy,bc,ba⟩,bx⟩
  .have hge:r=b.rs.length:=by simp at hc;omega
   subst hge;have Z:Jx 38 1 (.slice sa sl sc) (b.fatesR.map λ n=>.int .i64 n) A:=Z;refine⟨_,(c3.imI V.imm).sees3 (o:=0) rfl,Nat×Value,λ y=>[(2,.slice sa sl sc),(3,y.2),(6,.pb P),(81,.slice (some ⟨F,0,none⟩) h.cl h.cl),(82,.int .i64 h.cl),(83,.int .i64 y.1)],
    λ y U'=>N.frz.lg U'/\(∃A2,U'.M=A2++(A++Ba)/\Jx 38 1 y.2 (((range y.1).map b.fatC).map λ n=>.int .i64 n) A2)/\y.1<=h.cl,λ y=>h.cl-y.1,(0,.nl),T1,⟨V,⟨[],ab,.nil⟩,O1⟩,?_⟩
   rintro⟨i,v⟩f Ub⟨L,⟨A2,Q,K⟩,hi⟩;simp only at K hi;obtain⟨ua,ul,uc,rfl,er⟩:=K.src;have a7:Je ((i:Int)+1):=I1
   repeat refine⟨rfl,?_⟩
   conv=>whnf
   apply Qe<;>intro hc
   .have bm:i<h.cl:=by simpa using hc
    have d7:=Ze (U:=Ub) (b:=F) (e:=3) (vs:=Wg b b.all.length 0) (A2++A++[.obj l OA,.obj d (.deferred (some [])),.obj P (.cells #[.int .i64 (b.all.length:Nat)] 3 (0,0))]) (by rw[Q,<- aw];simp;rfl);have ak:=Ze (U:=Ub) (b:=P) (e:=3) (vs:=[.int .i64 (b.all.length:Nat)]) (A2++A++[.obj l OA,.obj d (.deferred (some []))]) (by rw[Q,<- aw];simp;rfl);have ag:=Gj (b:=b) (k:=b.all.length) (i:=0) (j:=i) O1;rw[if_neg O1]at ag
    have cr:Ub.sees ((Addr.mk F 0 none).add (i*1)) (.int .i64 (b.wc b.all.length i:Nat)):=by
     rw[Nat.mul_one];exact d7 i _ ag
    have be:WC (b.wc b.all.length i) b.all.length=b.fatC i:=by unfold Bk.wc;rw[take_length];rfl
    refine⟨⟨F,0,none⟩,i,⟨rfl,rfl,bm⟩,_,cr,_,ak 0 _ rfl,YI.any,(Sq _ _).go λ _=>?_⟩;rw[be]
    conv=>whnf
    intro bn cm;refine Zm cm λ Ud hd ai=>?_;have ai:Zo Ud bn #[.int .i64 (b.fatC i)]:=ai;have a9:=L.trans hd.lg
    conv=>whnf
    refine Wv (v:=.slice ua ul uc) (cs:=((range i).map b.fatC).map λ n=>.int .i64 n) (new:=[.int .i64 (b.fatC i)]) (M₀:=A++Ba) UY rfl rfl (by rw[hd.own,Q];exact K _) (.inr ⟨_,rfl,ai.rd⟩) rfl (by simp[Value.single]) S3 λ v' M' ah _=>?_;have ah:Acc 38 1 v' (((range (i+1)).map b.fatC).map λ n=>.int .i64 n) M' (A++Ba):=by rw[range_succ];simpa using ah
    obtain⟨ce,H,ae⟩:=ah.split;obtain⟨ta,tl,tc,rfl,-⟩:=ae.src;refine⟨a7,?_⟩
    conv=>whnf
    exact⟨rfl,(i+1,.slice ta tl tc),T1,⟨⟨a9.imm,Zz3,a9.tok⟩,⟨ce,H,ae⟩,by show i+1<=h.cl;omega⟩,L1⟩
   .have hge:i=b.cs.length:=by simp at hc;omega
    subst hge;have K:Jx 38 1 (.slice ua ul uc) (b.fatesC.map λ n=>.int .i64 n) A2:=K;subst aw;refine⟨A2++(A++([.obj l OA,.obj d (.deferred none),.obj P (.cells #[.int .i64 (b.all.length:Nat)] 3 (0,0)),.obj F (.cells (Wg b b.all.length 0).toArray 3 (0,0)),.obj mb (Q0 ZK (QH (b.sc b.all.length)))]++U.M)),by rw[Q];exact Pd (Pd (.there .here) _) _,?_⟩
    conv=>whnf
    exact⟨_,_,_,_,rfl,K _,Z _,λ x o hx=>L.imm x o (cv x o hx),L.tok.trans dg⟩
 .exact λ _ _ _ _ _ h=>h.elim
 .exact λ _ _ _ _ h=>h.elim
end
variable{B:Int}
def J1.nil:J1 U .nl []:=⟨none,0,rfl,rfl,λ i x h=>by simp at h⟩
def BH.zero:BH:=⟨none,0,0,none,0,0⟩
def Bk.askF(b:Bk)(r:Int):Int:=if b.flaw Zk=0 then(if Q_ r 0 (b.nr-1)then 0 else 6)else b.flaw Zk
def Bk.askF_ok(h:b.askF B=0):b.Ok/\0<=B/\B<b.nr:=by
 unfold Bk.askF at h;split at h
 .rename_i h1;split at h
  .rename_i h2;simp only[Q_,Bool.and_eq_true,decide_eq_true_eq]at h2;exact⟨Bk.ok_of h1,O1,O1⟩
  .cases h
 .rename_i h1;exact absurd h h1
section
attribute [local irreducible] Qb Zr W5
def R9(h:BH)(b:Bk)(N:Zu U.frz h b)(X:JU U):Qb S 19 #[h.v] (λ v U'=>(∃w z,v=.tuple #[w,z,.int .i64 (b.flaw Zk)]/\J1 U'.frz w (if b.flaw Zk=0 then b.fatesR else[])/\J1 U'.frz z (if b.flaw Zk=0 then b.fatesC else[]))/\U.le U') U:=by
 refine Qb.grown (R:=λ v U'=>∃w z,v=.tuple #[w,z,.int .i64 (b.flaw Zk)]/\J1 U' w (if b.flaw Zk=0 then b.fatesR else[])/\J1 U' z (if b.flaw Zk=0 then b.fatesC else[])) (λ v M T Q⟨w,z,e,G,H⟩=>⟨w,z,e,G.lg Q,H.lg Q⟩) (Qb.of (args:=[_]) Dq Qd S1 ?_)
 repeat refine⟨rfl,?_⟩
 conv=>whnf
 intro B M f F;have F:=Zz4 h F;refine⟨_,⟨rfl,F.rd⟩,?_⟩;refine⟨VL.any,(Ky h b ((N.lg f.lg.frz2).lg Qy) (X.lg f.lg)).go λ _=>?_⟩
 repeat refine⟨rfl,?_⟩
 conv=>whnf
 apply Qe<;>intro P
 .have E:b.flaw Zk≠0:=by simpa using P
  repeat refine⟨rfl,?_⟩
  conv=>whnf
  rw[if_neg E,if_neg E];exact⟨⟨_,_,rfl,.nil,.nil⟩,f.lg⟩
 have E:b.flaw Zk=0:=by simpa using P
 rw[if_pos E,if_pos E,E];refine⟨_,⟨rfl,F.rd⟩,?_⟩;refine⟨YB.any,(T_ h b (N.lg f.lg.frz2) (Bk.ok_of E)).mono ?_⟩;rintro _ T⟨⟨w,z,rfl,K,L⟩,I⟩-;obtain⟨a1,V,rfl,G⟩:=K;obtain⟨a2,W,rfl,H⟩:=L
 repeat refine⟨rfl,?_⟩
 conv=>whnf
 exact⟨⟨_,_,rfl,⟨a1,V,rfl,G⟩,⟨a2,W,rfl,H⟩⟩,(f.trans I).lg⟩
def Va(h:BH)(b:Bk)(K:Zu U.frz h b)(W:JU U)(r:Int):Qb S 26 #[h.v,.int .i64 r] (λ v U'=>v=.tuple #[(if b.askF r=0 then h else BH.zero).v,.int .i64 (b.askF r)]/\U'=U) U:=by
 refine Qb.pure' (Qb.of (args:=[_,_]) Pp Qd S1 ?_);have M:=K.rs.1;have Q:=K.rl;have L:b.nr=(h.rl:Int):=by unfold Bk.nr;rw[M]
 repeat refine⟨rfl,?_⟩
 conv=>whnf
 intro B T e H;have H:=Zz4 h H
 conv=>whnf
 intro G E;refine⟨_,.refl _,?_⟩;have z:=H.lg (Z6 G (.cells #[.nl,.nl] 64));refine⟨_,⟨rfl,z.rd⟩,?_⟩;refine⟨VL.any,(Ky h b (((K.lg e.lg.frz2).lg Qy).lg (Z6 G _)) ((W.lg e.lg).lg (Z6 G _))).go λ _=>?_⟩
 repeat refine⟨rfl,?_⟩
 conv=>whnf
 apply Qe<;>intro P
 .have F:b.flaw Zk≠0:=by simpa using P
  have I:b.askF r=b.flaw Zk:=by unfold Bk.askF;rw[if_neg F]
  rw[I,if_neg F];refine⟨rfl,Zy (vs:=[.nl,.nl]) E rfl (by simp[Value.single]) λ N f w=>?_⟩;refine⟨_,⟨rfl,w.rd⟩,?_⟩
  conv=>whnf
  exact⟨rfl,(e.trans f).lg⟩
 have F:b.flaw Zk=0:=by simpa using P
 have I:b.askF r=if Q_ r 0 ((h.rl:Int)-1)then 0 else 6:=by unfold Bk.askF;rw[if_pos F,L]
 rw[I];refine⟨_,z.sees3 (o:=0) rfl,I1,?_⟩;refine⟨Gn.any,(Wy _ _ _ _).go λ _=>?_⟩;cases V:Q_ r 0 ((h.rl:Int)-1)with
 |false=>
  refine⟨rfl,Zy (vs:=[.nl,.nl]) E rfl (by simp[Value.single]) λ N f w=>?_⟩;refine⟨_,⟨rfl,w.rd⟩,?_⟩
  conv=>whnf
  exact⟨rfl,(e.trans f).lg⟩
 |true=>
  refine⟨_,⟨rfl,z.rd⟩,?_⟩;refine⟨rfl,Zy (vs:=[.slice h.ra h.rl h.rc,.slice h.ca h.cl h.cc]) E rfl (by simp[Value.single]) λ N f w=>?_⟩;refine⟨_,⟨rfl,w.rd⟩,?_⟩
  conv=>whnf
  exact⟨rfl,(e.trans f).lg⟩
def Vc(h:BH)(b:Bk)(N:Zu U.frz h b)(z:b.Ok)(r:Nat)(P:r<b.rs.length):Qb S 27 #[h.v,.int .i64 r] (λ v U'=>v=.int .i64 (b.fatR r)/\U'=U) U:=by
 refine Qb.pure' (Qb.of (args:=[_,_]) Gm Qd S1 ?_)
 repeat refine⟨rfl,?_⟩
 conv=>whnf
 intro B K e f;have f:=Zz4 h f;refine⟨_,⟨rfl,f.rd⟩,?_⟩;refine⟨YB.any,(T_ h b (N.lg e.lg.frz2) z).mono ?_⟩;rintro _ T⟨⟨Y,Z,rfl,E,F⟩,w⟩-;obtain⟨a1,V,rfl,M⟩:=E;obtain⟨a2,W,rfl,X⟩:=F;have I:b.fatesR.length=b.rs.length:=by simp[Bk.fatesR]
 obtain⟨L,x,G,rfl,-,Q⟩:=M.at (show r<b.fatesR.length by omega)
 have H:x=b.fatR r:=by
  unfold Bk.fatesR at G;rw[getElem?_map,getElem?_range P]at G;exact(Option.some.inj G).symm
 subst H
 repeat refine⟨rfl,?_⟩
 refine⟨L,r,⟨rfl,rfl,O1⟩,_,Q.lg Qy,?_⟩
 repeat refine⟨rfl,?_⟩
 conv=>whnf
 exact(e.trans w).lg
end
variable{a:Option Addr}{j:List Bool}{cap:Nat}
def WQ(U:Qa T)(v:Value)(l:List Bool):Prop:=∃a cap,v=.slice a l.length cap/\∀(i:Nat)x,l[i]?=some x->∃e,a=some e/\e.spot=none/\U.sees (e.add (i*1)) (.bool x)
def WQ.lg{U':Qa T}{v:Value}{l:List Bool}(h:WQ U v l)(k:U.lg U'):WQ U' v l:=let ⟨a,c,e,h⟩:=h;⟨a,c,e,λ i x f=>let ⟨ad,e',s,r⟩:=h i x f;⟨ad,e',s,r.lg k⟩⟩
def WQ.nil:WQ U .nl []:=⟨none,0,rfl,λ i x h=>by simp at h⟩
def FE(h:Src U a (j.map .bool))(f:∀e,a=some e->e.spot=none):WQ U (.slice a j.length cap) j:=by
 refine⟨a,cap,rfl,λ i x z=>?_⟩;rcases h with⟨_,w⟩|⟨e,rfl,B⟩
 .rw[map_eq_nil_iff]at w;subst w;simp at z
 .exact⟨e,rfl,f e rfl,by rw[Nat.mul_one];exact B i _ (by simp[z])⟩
def Zo.bools{l:List Bool}(h:Zo U n c)(e:∀(i:Nat)(x:Bool),l[i]?=some x->c[i]?=some (.bool x)):WQ U (.slice (some ⟨n,0,none⟩) l.length cap) l:=
 ⟨_,_,rfl,λ i x f=>⟨_,rfl,rfl,by rw[Nat.mul_one,Qu];exact h.sees (by rw[Nat.zero_add];exact e i x f)⟩⟩
def Bk.ordL_cons(b:Bk)(o:List Nat)(i:Int)(l:List Int):b.ordL o (i::l)=if Q_ i 0 (b.nc-1)then(if i.toNat∈o then 5 else if(Jd b.A i.toNat).all (λ k=>o.contains k)then b.ordL (o++[i.toNat]) l else 7)else 6:=rfl
def Bk.outF(b:Bk)(l:List Int):Int:=if b.flaw Zk=0 then b.ordF l else b.flaw Zk
def CK(w:List Bool):((range w.length).map λ k=>Value.bool ((J4 w).testBit k))=w.map .bool:=by
 apply ext_getElem?;intro i;rw[getElem?_map,getElem?_map];by_cases h:i<w.length
 .rw[getElem?_range h,getElem?_eq_getElem h];simp[Pv,getD_eq_getElem?_getD,getElem?_eq_getElem h]
 .rw[getElem?_eq_none S3,getElem?_eq_none O1];rfl
def Qb.lists2g{R:Value->Qa T->Prop}(W:∀v K L,K.lg L->R v K->R v L)
  (h:Qb d f args (λ v U'=>∃z H A,v=.tuple (z::H::rest).toArray/\R z U'.frz/\Acc e 1 H cs U'.M (A++U.M)/\(∀x P,U.I x=some P->U'.I x=some P)/\U'.tok=U.tok) U) :
  Qb d f args (λ v U'=>(∃z a len cap,v=.tuple (z::.slice a len cap::rest).toArray/\R z U'.frz/\cs.length=len/\Src U'.frz a cs/\∀N,a=some N->N.spot=none)/\U.le U') U:=by
 refine h.sep λ v U' X⟨z,H,A,Z,Q,F,V,Y⟩=>?_;obtain⟨M',w,F⟩:=F.letgo;obtain⟨U'',k1,E,a,len,cap,rfl,hl,B,G,_⟩:=F.freeze (U:={ U' with M:=U.M }) (U':={ U' with M:=M' }) (X.sublist w) (λ _ _ h=>h) rfl;have hz:U'.frz.lg U''.frz:=⟨E.imm,⟨[],rfl⟩,E.tok⟩;exact⟨U'',(Z2 w).trans k1,⟨z,a,len,cap,Z,W _ _ _ hz Q,O1,B,G⟩,⟨λ x o h=>E.imm x o (V x o h),E.own,E.tok.trans Y⟩⟩
section
attribute [local irreducible] Qb Zr W5
def TO(h:BH)(b:Bk)(hb:Zu U.frz h b)(hk:JU U)(a:Option Addr)(len cap:Nat)(l:List Int)(hl:Z8 U.frz a len l)(cx:len<2^60) :
  Qb S 18 #[h.v,.slice a len cap] (λ v U'=>(∃v1 v2,v=.tuple #[v1,v2,.int .i64 (b.outF l)]/\WQ U'.frz v1 (if b.outF l=0 then(b.ends (l.map Int.toNat)).1 else[])/\WQ U'.frz v2 (if b.outF l=0 then(b.ends (l.map Int.toNat)).2 else[]))/\U.le U') U:=by
 refine(Qb.lists2g (e:=4) (cs:=(if b.outF l=0 then(b.ends (l.map Int.toNat)).2 else[]).map .bool) (R:=λ v U'=>WQ U' v (if b.outF l=0 then(b.ends (l.map Int.toNat)).1 else[])) (rest:=[.int .i64 (b.outF l)]) (λ v U1 U2 hl h=>h.lg hl) (Qb.of (args:=[_,_]) Yn Qd S1 ?_)).post λ v U'⟨⟨v1,a,len,cap,e,h1,h2,h3,h4⟩,H⟩=>⟨U',.refl _,⟨v1,_,e,h1,by rw[length_map]at h2;rw[<- h2];exact FE h3 h4⟩,H⟩;have cg:=hb.cs.1;have c3:=hb.rs.1;have c1:=hl.1
 repeat refine⟨rfl,?_⟩
 conv=>whnf
 intro B U1 L hB;have hB:=Zz4 h hB;refine⟨_,⟨rfl,hB.rd⟩,?_⟩;refine⟨VL.any,(Ky h b ((hb.lg L.lg.frz2).lg Qy) (hk.lg L.lg)).go λ _=>?_⟩
 repeat refine⟨rfl,?_⟩
 conv=>whnf
 apply Qe<;>intro hc
 .have hf:b.flaw Zk≠0:=by simpa using hc
  have hF:b.outF l=b.flaw Zk:=by unfold Bk.outF;rw[if_neg hf]
  rw[hF,if_neg hf,if_neg hf]
  repeat refine⟨rfl,?_⟩
  conv=>whnf
  exact⟨_,_,[],rfl,.nil,by rw[L.own];exact .nil,L.imm,L.tok⟩
 have hf:b.flaw Zk=0:=by simpa using hc
 have hF:b.outF l=b.ordF l:=by unfold Bk.outF;rw[if_pos hf]
 have ap:=Bk.ok_of hf;have c2:=ap.nc;have ct:=ap.nr;rw[hF];refine⟨_,hB.sees3 (o:=1) rfl,?_⟩
 repeat refine⟨rfl,?_⟩
 conv=>whnf
 apply Qe<;>intro hc
 .have hne:l.length≠b.cs.length:=by simp at hc;omega
  have a7:b.ordF l=2:=by unfold Bk.ordF;rw[if_pos hne]
  rw[a7]
  repeat refine⟨rfl,?_⟩
  conv=>whnf
  exact⟨_,_,[],rfl,.nil,by rw[L.own];exact .nil,L.imm,L.tok⟩
 have cz:l.length=b.cs.length:=by simp at hc;omega
 have a7:b.ordF l=b.ordL [] l:=by unfold Bk.ordF;rw[if_neg O1]
 rw[a7];refine⟨_,⟨rfl,hB.rd⟩,?_⟩
 conv=>whnf
 intro b8 ck;refine⟨_,.refl _,rfl,Zy (vs:=[.slice h.ra h.rl h.rc,.slice h.ca h.cl h.cc]) ck rfl (by simp[Value.single]) λ U2 bg bi=>?_⟩;have z:=L.trans bg;refine⟨_,⟨rfl,bi.rd⟩,?_⟩;refine⟨Yu.any,(Sm h b ((hb.lg z.lg.frz2).lg Qy) ct).go λ _=>?_⟩;have cu:J4 b.ini.2=0:=Dl _
 conv=>whnf
 intro b9 c0;refine⟨_,.refl _,rfl,HR (vs:=QZ .nl (W8 b.ini.1) 0) rfl (by simp[QZ,Value.single]) ?_⟩;have b1:Zo U2 B #[.slice h.ra h.rl h.rc,.slice h.ca h.cl h.cc]:=hB.le bg;have ah:U.frz.lg U2.frz:=z.lg.frz2
 refine⟨Nat×Option Addr×Nat,λ y=>[(1,.slice a len cap),(2,.pb B),(8,.pb b8),(9,.pb b9),(28,.slice a len cap),(29,.int .i64 len),(30,.int .i64 y.1)],
  λ y U'=>U2.frz.lg U'/\U'.M=.obj b9 (.cells (QZ (.slice y.2.1 y.1 y.2.2) (W8 (b.ends ((l.take y.1).map Int.toNat)).1) (J4 (b.ends ((l.take y.1).map Int.toNat)).2)).toArray 90 (0,0))::U.M/\y.1<=len/\Z8 U'.frz y.2.1 y.1 (((l.take y.1).map Int.toNat).map λ(k:Nat)=>(k:Int))/\y.1<=y.2.2/\(∀ad,y.2.1=some ad->ad.spot=none)/\(∀k∈(l.take y.1).map Int.toNat,k<b.cs.length)/\b.ordL [] l=b.ordL ((l.take y.1).map Int.toNat) (l.drop y.1),
  λ y=>len-y.1,(0,none,0),T1,⟨⟨λ _ _ h=>h,Zz3,rfl⟩,?_,O1,⟨rfl,λ i x K=>by simp at K⟩,Nat.le_refl _,S1,S1,rfl⟩,?_⟩
 .show _::U2.M=_;rw[z.own];show _=Q2.obj b9 (.cells (QZ .nl (W8 b.ini.1) (J4 b.ini.2)).toArray 90 (0,0))::U.M;rw[cu]
 rintro⟨i,xa,xc⟩f U3⟨Q,hM,hi,am,bt,bu,V,w⟩;simp only at hM hi am bt bu V w;have co:Je ((i:Int)+1):=I1
 have an:Zo U3 B #[.slice h.ra h.rl h.rc,.slice h.ca h.cl h.cc]:=b1.imI Q.imm;have bj:Zo U3 b8 #[.slice h.ra h.rl h.rc,.slice h.ca h.cl h.cc]:=bi.imI Q.imm;have ae:=Ze [] hM;have ak:((l.take i).map Int.toNat).length=i:=by rw[length_map,length_take];omega
 have bd:∀n∈((l.take i).map Int.toNat).map (λ(k:Nat)=>(k:Int)),0<=n/\n<60:=by
  intro n hn;obtain⟨k,hk,rfl⟩:=mem_map.1 hn;have:=V k hk;omega
 repeat refine⟨rfl,?_⟩
 conv=>whnf
 apply Qe<;>intro hc
 .have hlt:i<len:=by simpa using hc
  obtain⟨ad,n,K,rfl,c4,hs⟩:=((hl.lg (ah.trans Q.frz2)).lg Qy).at hlt;rw[Hk K,b.ordL_cons]at w;refine⟨ad,i,⟨rfl,rfl,hlt⟩,_,hs,_,an.sees3 (o:=1) rfl,I1,?_⟩;refine⟨Gn.any,(Wy _ _ _ _).go λ _=>?_⟩;have bo:b.nc=(h.cl:Int):=by unfold Bk.nc;rw[cg]
  rw[bo]at w
  have bad:∀(ab:Qa T)(F:Int),U3.le ab->F≠0->b.ordL [] l=F->∃v1 v2 A,Value.tuple #[.nl,.nl,.int .i64 F]=.tuple (v1::v2::[Value.int .i64 (b.ordL [] l)]).toArray/\WQ ab.frz v1 (if b.ordL [] l=0 then(b.ends (l.map Int.toNat)).1 else[])/\Acc 4 1 v2 ((if b.ordL [] l=0 then(b.ends (l.map Int.toNat)).2 else[]).map .bool) ab.M (A++U.M)/\(∀x ox,U.I x=some ox->ab.I x=some ox)/\ab.tok=U.tok:=by
   intro ab F h3 h0 e;rw[e,if_neg h0,if_neg h0];exact⟨_,_,[_],rfl,.nil,by rw[h3.own,hM];exact .nil,λ x o K=>h3.imm x o (Q.imm x o (z.imm x o K)),h3.tok.trans (Q.tok.trans z.tok)⟩
  cases a8:Q_ n 0 ((h.cl:Int)-1)with
  |false=>
   rw[a8]at w;have:=bad _ 6 (.refl _) D1 w
   repeat refine⟨rfl,?_⟩
   conv=>whnf
   exact this
  |true=>
  rw[if_pos a8]at w
  have cr:0<=n/\n<h.cl:=by
   simp only[Q_,Bool.and_eq_true,decide_eq_true_eq]at a8;omega
  obtain⟨k,rfl⟩:=Int.eq_ofNat_of_zero_le cr.1;rw[Int.toNat_natCast]at w;have bl:k<h.cl:=O1
  have a9:(((l.take i).map Int.toNat).map λ(k:Nat)=>(k:Int)).contains (k:Int)=decide (k∈(l.take i).map Int.toNat):=by
   rw[Bool.eq_iff_iff,contains_iff_mem,decide_eq_true_eq,mem_map];constructor
   .rintro⟨k',h1,h2⟩
    rwa [<- Int.ofNat.inj h2]
   .exact λ h=>⟨k,h,rfl⟩
  refine⟨_,ae.cell (i:=0) rfl,Ys.any,(TB xa i xc _ (am.lg Qy) O1 (k:Int)).go λ _=>?_⟩;rw[a9];by_cases Z:k∈(l.take i).map Int.toNat
  .rw[if_pos Z]at w;rw[decide_eq_true Z];have:=bad _ 5 (.refl _) D1 w
   repeat refine⟨rfl,?_⟩
   conv=>whnf
   exact this
  rw[if_neg Z]at w;rw[decide_eq_false Z];obtain⟨b0,c,ga,gl,gc,aa,al,ac,ch,cj,cy,bq,-,-,ha,b3,bm⟩:=(hb.lg (ah.trans Q)).case bl;have W:=ap.toLow.lt bm;have b4:=Bk.aft1_at ch;have ao:=λ U'(H:U3.le U')=>Jf (S:=S) (U:=U') aa al ac c.af (ha.lg H.lg) b3 W;have P:=Jf (S:=S) (U:=U3) xa i xc _ (am.lg Qy) O1 bd;rw[Ye]at P;have b6:Ja (c.af.map Int.toNat)<2^60:=Hi (toNat_lt W);have ce:Ja ((l.take i).map Int.toNat)<2^60:=Hi λ x K=>by have:=V x K;omega
  have key:_↔(Jd b.A k).all (λ k=>(Ja ((l.take i).map Int.toNat)).testBit k)=true:=(YL b6 ce).trans ((YK W).trans (by rw[b4]))
  have bz:(Jd b.A k).all (λ j=>(Ja ((l.take i).map Int.toNat)).testBit j)=(Jd b.A k).all λ j=>((l.take i).map Int.toNat).contains j:=by
   congr 1;funext j;exact W3 _ j
  rw[bz]at key;refine⟨_,an.sees3 (o:=1) rfl,b0,k,⟨cj,rfl,bl⟩,_,bq.cell (i:=3) rfl,.int .i64 (Ja (c.af.map Int.toNat):Nat),λ U' H _=>?_,?_⟩
  .refine⟨XW.any,(ao U' H).mono ?_⟩;rintro _ U''⟨rfl,hU⟩-;exact⟨rfl,_,.refl _,hU▸.refl _⟩
  refine⟨_,ae.cell (i:=0) rfl,?_⟩
  conv=>whnf
  intro U4 G _;have ai:=Q.trans G.lg;have be:=G.own.trans hM;have bp:=Ze [] be
  conv=>whnf
  have P:=Jf (S:=S) (U:=U4) xa i xc _ ((am.lg G.lg.frz2).lg Qy) O1 bd;rw[Ye]at P;refine⟨XW.any,P.go λ _=>?_⟩
  repeat refine⟨rfl,?_⟩
  conv=>whnf
  apply Qe<;>intro hc
  .have hno:(Jd b.A k).all (λ j=>((l.take i).map Int.toNat).contains j)=false:=by
    cases hh:(Jd b.A k).all (λ j=>((l.take i).map Int.toNat).contains j)with
    |false=>rfl
    |true=>exact absurd (key.2 hh) (bne_iff_ne.1 hc)
   rw[hno]at w;have:=bad _ 7 G D1 w
   repeat refine⟨rfl,?_⟩
   conv=>whnf
   exact this
  have bw:(Jd b.A k).all (λ j=>((l.take i).map Int.toNat).contains j)=true:=key.1 (bne_eq_false_iff_eq.1 hc);rw[if_pos bw]at w;have E:=b.ends_len ((l.take i).map Int.toNat);have b2:Zo U4 b8 #[.slice h.ra h.rl h.rc,.slice h.ca h.cl h.cc]:=bj.le G;have bb:(l.take (i+1)).map Int.toNat=(l.take i).map Int.toNat++[k]:=by rw[Wm K,map_append];rfl
  have cw:i<5:=O1
  have aw:=TY (S:=S) (U:=U4) h b ((hb.lg (ah.trans ai.frz2)).lg Qy) ap xa xc ((l.take i).map Int.toNat) (b.ends ((l.take i).map Int.toNat)) (by rw[ak];exact(am.lg G.lg.frz2).lg Qy) bu (by rw[ak];exact bt) (by rw[ak];omega) E.1 E.2 k O1;rw[ak,<- b.ends_snoc,<- bb]at aw;refine⟨_,⟨rfl,b2.rd⟩,?_⟩;refine⟨_,⟨rfl,bp⟩,Yv.any,aw.mono ?_⟩;rintro _ U5⟨⟨a',c',rfl,a6,a0,bv⟩,bh⟩-;have aj:=ai.trans bh.lg;have bf:=bh.own.trans be;have ax:((l.take (i+1)).map Int.toNat).length=i+1:=by rw[length_map,length_take];omega
  rw[ax]at a6 a0;refine⟨rfl,Wk (vs:=QZ (.slice a' ((l.take (i+1)).map Int.toNat).length c') (W8 (b.ends ((l.take (i+1)).map Int.toNat)).1) (J4 (b.ends ((l.take (i+1)).map Int.toNat)).2)) [] bf rfl (by simp[QZ,Value.single]) λ U6 au az av=>?_⟩;rw[ax]at av;have ba:U2.frz.lg U6:=⟨λ x o K=>by rw[au];exact aj.imm x o K,Zz3,az.trans aj.tok⟩;have bx:U5.frz.lg U6.frz:=⟨λ x o K=>by show U6.I x=_;rw[au];exact K,⟨[],rfl⟩,az⟩;refine⟨co,rfl,(i+1,a',c'),T1,⟨ba,av,by show i+1<=len;omega,a6.lg bx,a0,bv,?_,by rw[bb];exact w⟩,L1⟩;intro x ag;rw[bb,mem_append]at ag;rcases ag with ag|ag
  .exact V x ag
  .rw[mem_singleton.1 ag];omega
 .have hge:i=l.length:=by simp at hc;omega
  subst hge;rw[drop_length]at w;have hz:b.ordL [] l=0:=w;rw[take_length]at hM ae ak V;rw[hz,if_pos rfl,if_pos rfl];have E:=b.ends_len (l.map Int.toNat);generalize b.ends (l.map Int.toNat)=e at hM ae E;obtain⟨e1,e2⟩:=e;simp only at hM ae E;obtain⟨h1,h2⟩:=E;have bs:J4 e2<2^60:=Nat.lt_trans (YX e2 (m:=5) O1) D1;refine⟨_,an.sees3 (o:=0) rfl,_,ae.cell (i:=7) rfl,_,an.sees3 (o:=1) rfl,?_⟩
  conv=>whnf
  obtain⟨eT,cv,a1,a2,a3,a4,a5⟩:=Y9.h;refine⟨λ v U'=>v=.slice (some ⟨b9,1,none⟩) h.rl 6,λ v _ _ X _=>X,λ U' H hC=>?_,λ v X=>?_⟩
  .conv=>whnf
   refine Aj (b:=b9) (o:=1) (n:=h.rl) (N:=6) a1 a3 rfl rfl O1 ?_;exact⟨_,.refl _,rfl,.refl _⟩
  obtain⟨_,-,-,rfl⟩:=X;refine⟨λ v U'=>WQ U'.frz v e1,λ v U1 U2 X H=>X.lg H.lg.frz2,λ U' H hC=>?_,λ v X=>?_⟩
  .have hrd':=Ze [] (H.own.trans hM)
   have br:Src U' (some ⟨b9,1,none⟩) (e1.map .bool):=.inr ⟨_,rfl,λ i v X=>by
    rw[getElem?_map]at X;cases K:e1[i]? with
    |none=>rw[K]at X;cases X
    |some x=>
     rw[K]at X;cases X;have bk:i<6:=by have:=(List.getElem?_eq_some_iff.1 K).1;omega
     have h3:(QT (W8 e1))[i]?=some (.bool x):=by
      rw[Oa _ bk];simp[W8,getD_eq_getElem?_getD,K]
     have h4:=hrd' (1+i) (.bool x) (by
      rcases Gg bk with rfl|rfl|rfl|rfl|rfl|rfl <;> exact h3)
     rw[Qu]at h4 ⊢
     rwa [Nat.zero_add]at h4⟩
   conv=>whnf
   refine Em (sa:=none) (sl:=0) (cs:=[]) (new:=e1.map .bool) UX rfl rfl (.inl ⟨rfl,rfl⟩) rfl br (by rw[length_map];omega) (by rw[length_map,length_nil];omega) (λ h0=>?_) (λ _ bn cn bc cm cq c5 cf=>?_)
   .have:e1=[]:=by simpa using h0
    subst this;exact⟨_,.refl _,.nil,.refl _⟩
   .refine Zm cm λ U1 cp b7=>⟨?_,cp⟩;have b5:Zo U1.frz bn cn:=b7;have:=b5.bools (l:=e1) (cap:=bc) (λ i x K=>cf i _ (by simp[K]));rw[Nat.zero_add,show h.rl=e1.length by omega];exact this
  obtain⟨_,-,-,va,vc,rfl,-⟩:=X
  conv=>whnf
  intro U4 G hC;obtain⟨-,X⟩:=hC;refine⟨Dy.any,(R7 (J4 e2) h.cl bs O1).mono ?_⟩;rintro v U5⟨Y,aq,ay⟩-;rw[show h.cl=e2.length by omega,CK]at Y;obtain⟨ta,tl,tc,rfl,-,-⟩:=Acc.src (U:=U5) Y;rw[G.own,hM]at Y
  repeat refine⟨rfl,?_⟩
  conv=>whnf
  exact⟨_,_,[_],rfl,X.lg ⟨aq,⟨[],rfl⟩,ay⟩,Y,λ x o K=>aq x o (G.imm x o (Q.imm x o (z.imm x o K))),ay.trans (G.tok.trans (Q.tok.trans z.tok))⟩
end
variable{G D:Q2}
def Qa.on_of(h:U.M=G::D::M):U=({ U with M:=M }:Qa T).on G D:=by
 obtain⟨i,m,t⟩:=U;simp only[Qa.on]at h ⊢;rw[h]
def Bk.dfO(b:Bk)(r k:Nat)(w:Bool):Option (List Nat):=(b.all.take k).find? λ o=>(b.ends o).1.getD r false==w
def Bk.dfO_succ{w:Bool}(h:b.all[k]?=some o):b.dfO r (k+1) w=(b.dfO r k w).or (if(b.ends o).1.getD r false==w then some o else none):=by
 unfold Bk.dfO;rw[Wm h,find?_append,find?_singleton]
def Bk.dfO_end(b:Bk)(r:Nat)(w:Bool):(b.dfO r b.all.length w).getD []=b.difS r w:=by unfold Bk.dfO Bk.difS;rw[take_length]
def QV(o:Option (List Nat)):List Int:=(o.getD []).map λ(k:Nat)=>(k:Int)
section
attribute [local irreducible] Qb Zr W5
def NQ(h:BH)(b:Bk)(hb:Zu U.frz h b)(hk:JU U)(r:Int) :
  Qb S 20 #[h.v,.int .i64 r] (λ v U'=>(∃v1 v2,v=.tuple #[v1,v2,.int .i64 (b.askF r)]/\J1 U'.frz v1 (if b.askF r=0 then(b.difS r.toNat true).map λ(k:Nat)=>(k:Int)else[])/\J1 U'.frz v2 (if b.askF r=0 then(b.difS r.toNat false).map λ(k:Nat)=>(k:Int)else[]))/\U.le U') U:=by
 refine Qb.grown (R:=λ v U'=>∃v1 v2,v=.tuple #[v1,v2,.int .i64 (b.askF r)]/\J1 U' v1 (if b.askF r=0 then(b.difS r.toNat true).map λ(k:Nat)=>(k:Int)else[])/\J1 U' v2 (if b.askF r=0 then(b.difS r.toNat false).map λ(k:Nat)=>(k:Int)else[])) (λ v U1 U2 V⟨v1,v2,e,h1,h2⟩=>⟨v1,v2,e,h1.lg V,h2.lg V⟩) (Qb.of (args:=[_,_]) Dr Qd S1 ?_);have bq:=hb.rs.1
 repeat refine⟨rfl,?_⟩
 conv=>whnf
 intro B U1 be hB;have hB:=Zz4 h hB
 conv=>whnf
 intro b3 U2 a7 ad;have ad:Zo U2 b3 #[.int .i64 r]:=ad
 conv=>whnf
 intro b4 bm;refine⟨_,.refl _,?_⟩
 conv=>whnf
 intro b5 bn;refine⟨_,.refl _,?_⟩;have f:=be.trans a7;have L:U2.lg ((U2.put b4 (.cells #[.nl] 44)).put b5 (.cells #[.nl] 44)):=(Z6 b4 _).trans (Z6 b5 _);refine⟨_,⟨rfl,((hB.le a7).lg L).rd⟩,?_⟩;refine⟨_,(ad.lg L).sees3 (o:=0) rfl,Pp.any,(Va h b (hb.lg (f.lg.frz2.trans L.frz2)) (hk.lg (f.lg.trans L)) r).go λ _=>?_⟩;by_cases hF:b.askF r=0
 .rw[hF,if_pos rfl,if_pos rfl,if_pos rfl];obtain⟨bb,bh,bk⟩:=Bk.askF_ok hF;obtain⟨q,rfl⟩:=Int.eq_ofNat_of_zero_le bh;rw[Int.toNat_natCast];have bp:=bb.nr;have ae:q<6:=by unfold Bk.nr at bk;omega
  conv=>whnf
  intro b7 aq;refine⟨_,.refl _,rfl,Zy (vs:=[.slice h.ra h.rl h.rc,.slice h.ca h.cl h.cc]) aq rfl (by simp[Value.single]) λ U3 N a8=>?_⟩
  repeat refine⟨rfl,?_⟩
  conv=>whnf
  intro b8 bf;refine⟨_,.refl _,?_⟩;have P:=Z6 (U:=U3) b8 (.cells #[.bool false,.bool false] 95);refine⟨_,⟨rfl,(a8.lg P).rd⟩,?_⟩;refine⟨YC.any,(Sf h b ((hb.lg (f.lg.frz2.trans (L.frz2.trans (N.lg.frz2.trans P.frz2)))).lg Qy)).mono ?_⟩;rintro _ U4⟨⟨B',rfl,a1⟩,aj⟩-;have aw:U.frz.lg U4.frz:=f.lg.frz2.trans (L.frz2.trans (N.lg.frz2.trans (P.frz2.trans aj.lg.frz2)));have ad:Zo U4 b3 #[.int .i64 (q:Int)]:=ad.lg (L.trans (N.lg.trans (P.trans aj.lg)))
  have ay:U4.M=.obj b8 (.cells #[.bool (b.dfO q 0 true).isSome,.bool (b.dfO q 0 false).isSome] 95 (0,0))::.obj b5 (.cells #[.nl] 44 (0,0))::.obj b4 (.cells #[.nl] 44 (0,0))::U.M:=by
   rw[aj.own];show _::U3.M=_;rw[N.own];show _::_::_::U2.M=_;rw[f.own];rfl
  have bg:∀l U5,U4.frz.lg U5->Kg S 84 #[.func (.yield l) #[] #[],.pb B'] l b.all.length (G5 b) U5:=λ l U5 V=>TN h b (hb.lg (aw.trans V.frz2)) bb (a1.imI V.imm);have a0:U4.tok=U.tok:=aj.tok.trans (P.tok.trans (N.tok.trans (L.tok.trans f.tok)));clear a1 P aj N aq bf L
  conv=>whnf
  let Inv:Nat->Qa T->Prop:=λ k U'=>U4.frz.lg U'/\∃v4 v5,U'.M=.obj b8 (.cells #[.bool (b.dfO q k true).isSome,.bool (b.dfO q k false).isSome] 95 (0,0))::.obj b5 (.cells #[v5] 44 (0,0))::.obj b4 (.cells #[v4] 44 (0,0))::U.M/\J1 U'.frz v4 (QV (b.dfO q k true))/\J1 U'.frz v5 (QV (b.dfO q k false))
  refine Db Qd b.all.length (G5 b) Inv (λ _ _=>False) (λ _=>False) rfl rfl YJ.any bg ?_ ?_ ⟨Qy,_,_,ay,.nil,.nil⟩ ?_ ?_ ?_ ?_
  .rintro k p U' ⟨o,v,-,rfl,-⟩;rfl
  .rintro k U' U'' G ⟨V,v4,v5,hM,h4,h5⟩;exact⟨Oe V G,v4,v5,G.own.trans hM,h4.lg G.lg.frz2,h5.lg G.lg.frz2⟩
  .rintro l A' Bd D k p U₀ KN KX KR KA hk' ⟨o,v,ho,rfl,a,cap,rfl,hio,hcap,hsp⟩ ⟨V,v4,v5,hM,h4,h5⟩ hKN hKX hKR hKA;obtain⟨a4,c4,rfl,h4⟩:=h4;obtain⟨a5,c5,rfl,h5⟩:=h5
   conv=>whnf
   intro b9 ba;refine⟨_,.refl _,rfl,Zy (vs:=QZ (.slice a o.length cap) (W8 (b.ends o).1) (J4 (b.ends o).2)) ba rfl (by simp[QZ,Value.single]) λ U5 ap av=>?_⟩
   conv=>whnf
   rw[Qa.on_of (ap.own:U5.M=A'::D::U₀.M)];refine hKA _ _ ?_;have Q:(({ U5 with M:=U₀.M }:Qa T).on Bd D).M=[Bd,D]++(.obj b8 (.cells #[.bool (b.dfO q k true).isSome,.bool (b.dfO q k false).isSome] 95 (0,0))::.obj b5 (.cells #[.slice a5 (QV (b.dfO q k false)).length c5] 44 (0,0))::.obj b4 (.cells #[.slice a4 (QV (b.dfO q k true)).length c4] 44 (0,0))::U.M):=by show Bd::D::U₀.M=_;rw[hM];rfl
   have z:U₀.frz.lg (({ U5 with M:=U₀.M }:Qa T).on Bd D):=⟨λ x o h=>ap.imm x o h,Zz3,ap.tok⟩;have a9:Zo (({ U5 with M:=U₀.M }:Qa T).on Bd D) b9 (QZ (.slice a o.length cap) (W8 (b.ends o).1) (J4 (b.ends o).2)).toArray:=av;generalize(({ U5 with M:=U₀.M }:Qa T).on Bd D)=U6 at Q z a9 ⊢;clear ap av ba;have ab:Zo U6 b3 #[.int .i64 (q:Int)]:=ad.imI λ x o h=>z.imm x o (V.imm x o h)
   have bl:(QZ (.slice a o.length cap) (W8 (b.ends o).1) (J4 (b.ends o).2))[1+q]?=some (.bool ((b.ends o).1.getD q false)):=by
    have:=Oa (W8 (b.ends o).1) ae;rcases Gg ae with rfl|rfl|rfl|rfl|rfl|rfl <;> exact this
   have al:Ju U6 ⟨b9,0,none⟩ (QZ (.slice a o.length cap) (W8 (b.ends o).1) (J4 (b.ends o).2)):=a9.reads λ k v hv=>by simpa using hv
   have au:U6.sees (((Addr.mk b9 0 none).add 1).add (q*1)) (.bool ((b.ends o).1.getD q false)):=by
    have:=al (1+q) _ bl;rw[Qu]at this;rw[Qu,Qu,Nat.mul_one]
    rwa [Nat.zero_add]at this ⊢
   have E:=b.dfO_succ (r:=q) (w:=true) ho;have F:=b.dfO_succ (r:=q) (w:=false) ho;have bc:J1 U6.frz (.slice a o.length cap) (o.map λ(k:Nat)=>(k:Int)):=⟨a,cap,S1,by rw[length_map];exact hio.lg z.frz2⟩;have h4:J1 U6.frz (.slice a4 (QV (b.dfO q k true)).length c4) (QV (b.dfO q k true)):=⟨a4,c4,rfl,h4.lg z.frz2⟩;have h5:J1 U6.frz (.slice a5 (QV (b.dfO q k false)).length c5) (QV (b.dfO q k false)):=⟨a5,c5,rfl,h5.lg z.frz2⟩;have Y:=Ze [Bd,D] Q;have bo:U4.frz.lg U6.frz:=V.frz2.trans z.frz2
   have same:∀(ax:Zh T)ao an,(∀ao an U3,U₀.frz.lg U3->Inv (k+1) U3->ax ao an (U3.on Bd D))->b.dfO q (k+1) true=b.dfO q k true->b.dfO q (k+1) false=b.dfO q k false->ax ao an U6:=by
    intro ax ao an hK e1 e2;rw[Qa.on_of (Q:U6.M=Bd::D::(.obj b8 (.cells #[.bool (b.dfO q k true).isSome,.bool (b.dfO q k false).isSome] 95 (0,0))::.obj b5 (.cells #[.slice a5 (QV (b.dfO q k false)).length c5] 44 (0,0))::.obj b4 (.cells #[.slice a4 (QV (b.dfO q k true)).length c4] 44 (0,0))::U.M))];refine hK _ _ _ ⟨z.imm,Zz3,z.tok⟩ ⟨⟨λ x o h=>z.imm x o (V.imm x o h),Zz3,z.tok.trans V.tok⟩,.slice a4 (QV (b.dfO q k true)).length c4,.slice a5 (QV (b.dfO q k false)).length c5,?_,?_,?_⟩
    .rw[e1,e2];rfl
    .rw[e1];exact h4
    .rw[e2];exact h5
   refine⟨_,ab.sees3 (o:=0) rfl,q,⟨rfl,ae⟩,_,au,?_⟩;cases hs:(b.ends o).1.getD q false with
   |true=>
    rw[hs]at E F;cases e4:b.dfO q k true with
    |none=>
     rw[e4]at E;simp at E F;rw[e4]at Q Y;refine⟨0,⟨rfl,O1⟩,_,Y 0 _ rfl,?_⟩
     repeat refine⟨rfl,?_⟩
     refine⟨_,al 0 _ rfl,rfl,Wk (vs:=[.slice a o.length cap]) [Bd,D,_,_] Q rfl (by simp[Value.single]) λ U7 H K X=>?_⟩;refine⟨0,⟨rfl,O1⟩,rfl,WS (i:=0) (v:=.bool true) [Bd,D] X (by show 0<2;omega) rfl λ U8 W Z ai=>?_⟩;have hz:U6.frz.lg U8.frz:=⟨λ x o hx=>by show U8.I x=_;rw[W,H];exact hx,⟨[],rfl⟩,Z.trans K⟩;have af:∀x o,U₀.I x=some o->U8.I x=some o:=λ x o hx=>by rw[W,H];exact z.imm x o hx
     have am:U8.tok=U₀.tok:=by rw[Z,K];exact z.tok
     conv=>whnf
     rw[Qa.on_of (ai:U8.M=Bd::D::(.obj b8 (.cells #[.bool true,.bool (b.dfO q k false).isSome] 95 (0,0))::.obj b5 (.cells #[.slice a5 (QV (b.dfO q k false)).length c5] 44 (0,0))::.obj b4 (.cells #[.slice a o.length cap] 44 (0,0))::U.M))];refine hKN _ _ _ ⟨af,Zz3,am⟩ ⟨⟨λ x o h=>af x o (V.imm x o h),Zz3,am.trans V.tok⟩,.slice a o.length cap,.slice a5 (QV (b.dfO q k false)).length c5,?_,?_,?_⟩
     .rw[E,F];rfl
     .rw[E];exact bc.lg hz
     .rw[F];exact h5.lg hz
    |some o'=>
     rw[e4]at E;simp at E F;have ak:=same KN;rw[e4]at Q Y;refine⟨0,⟨rfl,O1⟩,_,Y 0 _ rfl,?_⟩
     repeat refine⟨rfl,?_⟩
     refine⟨_,ab.sees3 (o:=0) rfl,q,⟨rfl,ae⟩,_,au,?_⟩;rw[hs]
     repeat refine⟨rfl,?_⟩
     conv=>whnf
     exact ak _ _ hKN (by rw[E,e4]) F
   |false=>
    rw[hs]at E F;cases e5:b.dfO q k false with
    |none=>
     rw[e5]at F;simp at E F;rw[e5]at Q Y
     repeat refine⟨rfl,?_⟩
     refine⟨_,ab.sees3 (o:=0) rfl,q,⟨rfl,ae⟩,_,au,?_⟩;rw[hs];refine⟨1,⟨rfl,O1⟩,_,Y 1 _ rfl,?_⟩
     repeat refine⟨rfl,?_⟩
     refine⟨_,al 0 _ rfl,rfl,Wk (vs:=[.slice a o.length cap]) [Bd,D,_] Q rfl (by simp[Value.single]) λ U7 H K X=>?_⟩;refine⟨1,⟨rfl,O1⟩,rfl,WS (i:=1) (v:=.bool true) [Bd,D] X (by show 1<2;omega) rfl λ U8 W Z ai=>?_⟩;have hz:U6.frz.lg U8.frz:=⟨λ x o hx=>by show U8.I x=_;rw[W,H];exact hx,⟨[],rfl⟩,Z.trans K⟩;have af:∀x o,U₀.I x=some o->U8.I x=some o:=λ x o hx=>by rw[W,H];exact z.imm x o hx
     have am:U8.tok=U₀.tok:=by rw[Z,K];exact z.tok
     conv=>whnf
     rw[Qa.on_of (ai:U8.M=Bd::D::(.obj b8 (.cells #[.bool (b.dfO q k true).isSome,.bool true] 95 (0,0))::.obj b5 (.cells #[.slice a o.length cap] 44 (0,0))::.obj b4 (.cells #[.slice a4 (QV (b.dfO q k true)).length c4] 44 (0,0))::U.M))];refine hKN _ _ _ ⟨af,Zz3,am⟩ ⟨⟨λ x o h=>af x o (V.imm x o h),Zz3,am.trans V.tok⟩,.slice a4 (QV (b.dfO q k true)).length c4,.slice a o.length cap,?_,?_,?_⟩
     .rw[E,F];rfl
     .rw[E];exact h4.lg hz
     .rw[F];exact bc.lg hz
    |some o'=>
     rw[e5]at F;simp at E F;have ak:=same KN;rw[e5]at Q Y
     repeat refine⟨rfl,?_⟩
     refine⟨_,ab.sees3 (o:=0) rfl,q,⟨rfl,ae⟩,_,au,?_⟩;rw[hs];refine⟨1,⟨rfl,O1⟩,_,Y 1 _ rfl,?_⟩
     repeat refine⟨rfl,?_⟩
     conv=>whnf
     exact ak _ _ hKN E (by rw[F,e5])
  .rintro d l OA U3' ⟨V,v4,v5,hM,h4,h5⟩;obtain⟨a4,c4,rfl,h4⟩:=h4;obtain⟨a5,c5,rfl,h5⟩:=h5;have aa:(U3'.on (.obj l OA) (.obj d (.deferred (some [])))).M=[.obj l OA,.obj d (.deferred (some []))]++(.obj b8 (.cells #[.bool (b.dfO q b.all.length true).isSome,.bool (b.dfO q b.all.length false).isSome] 95 (0,0))::.obj b5 (.cells #[.slice a5 (QV (b.dfO q b.all.length false)).length c5] 44 (0,0))::.obj b4 (.cells #[.slice a4 (QV (b.dfO q b.all.length true)).length c4] 44 (0,0))::U.M):=by show _::_::U3'.M=_;rw[hM];rfl
   have h4:J1 (U3'.on (.obj l OA) (.obj d (.deferred (some [])))).frz (.slice a4 (QV (b.dfO q b.all.length true)).length c4) (QV (b.dfO q b.all.length true)):=⟨a4,c4,rfl,h4⟩;have h5:J1 (U3'.on (.obj l OA) (.obj d (.deferred (some [])))).frz (.slice a5 (QV (b.dfO q b.all.length false)).length c5) (QV (b.dfO q b.all.length false)):=⟨a5,c5,rfl,h5⟩;have az:U4.frz.lg (U3'.on (.obj l OA) (.obj d (.deferred (some [])))):=⟨V.imm,Zz3,V.tok⟩;generalize(U3'.on (.obj l OA) (.obj d (.deferred (some []))))=U5 at aa h4 h5 az ⊢;have e1:QV (b.dfO q b.all.length true)=(b.difS q true).map λ(k:Nat)=>(k:Int):=by unfold QV;rw[b.dfO_end]
   have e2:QV (b.dfO q b.all.length false)=(b.difS q false).map λ(k:Nat)=>(k:Int):=by unfold QV;rw[b.dfO_end]
   have bi:=Ze (b:=b4) (vs:=[.slice a4 (QV (b.dfO q b.all.length true)).length c4]) [_,_,_,_] aa;have bj:=Ze (b:=b5) (vs:=[.slice a5 (QV (b.dfO q b.all.length false)).length c5]) [_,_,_] aa;refine⟨λ U'=>U5.frz.lg U'/\U'.M=U5.M,λ U U'⟨a,b⟩G=>⟨Oe a G,G.own.trans b⟩,_,bi 0 _ rfl,.slice a5 (QV (b.dfO q b.all.length false)).length c5,λ U' G _=>⟨_,(bj 0 _ rfl).lg G.lg,rfl,_,.refl _,.refl _⟩,λ U' hG=>⟨_,Ze [_,_,_] (hG.2.trans aa) 0 _ rfl,rfl,_,.refl _,.refl _⟩,?_⟩
   conv=>whnf
   intro U' G _;refine⟨⟨rfl,K9 (vs:=[.slice a4 (QV (b.dfO q b.all.length true)).length c4]) [_,_,_,_] (G.own.trans aa) rfl (by simp[Value.single]) ⟨rfl,_,.refl _,⟨⟨λ b o h=>G.imm b o h,Zz3,G.tok⟩,aa.symm⟩⟩⟩,λ U'' hG=>?_⟩;obtain⟨ac,ah⟩:=hG;have ah:=ah.trans aa;refine⟨rfl,Wk (vs:=[.slice a5 (QV (b.dfO q b.all.length false)).length c5]) [_,_,_] ah rfl (by simp[Value.single]) λ U7 H K X=>?_⟩;have hz:U5.frz.lg U7.frz:=⟨λ x o hx=>by show U7.I x=_;rw[H];exact ac.imm x o hx,⟨[],rfl⟩,K.trans ac.tok⟩;refine⟨[.obj l OA,.obj d (.deferred none)]++(.obj b8 (.cells #[.bool (b.dfO q b.all.length true).isSome,.bool (b.dfO q b.all.length false).isSome] 95 (0,0))::.obj b5 (.cells #[.slice a5 (QV (b.dfO q b.all.length false)).length c5] 44 (0,0))::.obj b4 (.cells #[.slice a4 (QV (b.dfO q b.all.length true)).length c4] 44 (0,0))::U.M),by rw[X];exact .there .here,?_⟩;refine⟨_,Ze [_,_,_,_] rfl 0 _ rfl,?_⟩;refine⟨_,Ze [_,_,_] rfl 0 _ rfl,?_⟩;refine⟨⟨_,_,rfl,?_,?_⟩,⟨λ x o hx=>?_,⟨[_,_,_,_,_],rfl⟩,?_⟩⟩
   .rw[<- e1];exact h4.lg hz
   .rw[<- e2];exact h5.lg hz
   .show U7.I x=_;rw[H];exact ac.imm x o (az.imm x o (aw.imm x o hx))
   .show U7.tok=_;rw[K];exact ac.tok.trans (az.tok.trans a0)
  .exact λ _ _ _ _ _ h=>h.elim
  .exact λ _ _ _ _ h=>h.elim
 .rw[if_neg hF,if_neg hF,if_neg hF]
  conv=>whnf
  intro b7 aq;refine⟨_,.refl _,rfl,Zy (vs:=[.nl,.nl]) aq rfl (by simp[Value.single]) λ U3 N a8=>?_⟩
  have a6:U3.M=[.obj b5 (.cells #[.nl] 44 (0,0))]++.obj b4 (.cells #[.nl] 44 (0,0))::U.M:=by
   rw[N.own];show _::_::U2.M=_;rw[f.own];rfl
  repeat refine⟨rfl,?_⟩
  conv=>whnf
  apply Qe<;>intro hc
  .refine⟨rfl,Wk (vs:=[.nl]) [_] a6 rfl (by simp[Value.single]) λ U4 a2 a0 ay=>?_⟩;refine⟨rfl,Wk (vs:=[.nl]) [] ay rfl (by simp[Value.single]) λ U5 a3 bd ag=>?_⟩;refine⟨_,Ze [_] ag 0 _ rfl,_,Ze [] ag 0 _ rfl,⟨_,_,rfl,.nil,.nil⟩,⟨λ x o hx=>?_,⟨[_,_],ag⟩,?_⟩⟩
   .rw[a3,a2];exact N.imm x o (L.imm x o (f.imm x o hx))
   .rw[bd,a0];exact N.tok.trans (L.tok.trans f.tok)
  .exact absurd (by simpa using hc) hF
end
variable{u:Fm}{K:Value->Qa T->Prop}{w:TypeInfo}{x y:Operand}
def Bq(Z:P.underlying k=some (.slice e))(G:P.info? e=some w)(hz:w.zero=some z)(N:z.cells=#[z])(L:w.size=1)(F:w.bytes<=64)
  (hx:Zc u x=.int .i64 0) (hy:Zc u y=.int .i64 n) (Y:n<=1048576) (h:∀b,U.free b->K (.slice (some ⟨b,0,none⟩) 0 n) (U.put b (.cells (replicate n z).toArray e))) :
  OX d (.rw (.makeSlice k x y) cap) u K U:=by
 intro a' T;simp only[execOp,T,hx,hy];refine rq ?_;unfold Instr.makeSlice;have hw:IntKind.wrap .i64 (n:Int)=n:=Gk I1;have M:IntKind.wrap .i64 (0:Int)=0:=D1
 simp only[Qc,Zi Z,asInt,asIntOf,Qi,Wl G,hw,M]
 have X:(w.bytes:Int)*(n:Int)<=67108864:=by
  have:=Nat.mul_le_mul F Y;have e:((w.bytes*n:Nat):Int)=(w.bytes:Int)*n:=S1
  omega
 have E:(2:Int)^48=281474976710656:=D1
 have I:(((decide ((n:Int)<0)|| decide ((w.bytes:Int)*(n:Int) > 2^48))|| decide ((0:Int)<0))|| decide ((0:Int) > n))=false:=by
  rw[E];simp only[Bool.or_eq_false_iff,decide_eq_false_iff_not];omega
 simp only[I,Bool.false_eq_true,if_false];rw[Qc];refine PD ?_;simp only[Qc,Ji G,L,Nat.mul_one,Int.toNat_natCast]
 have fin:∀c:Array Value,(n≠0->c=z.cells)->Qw P (newRow e ((Array.range n).map (c[· % c.size]!))) (λ a U'=>∃Q,Q1 U' Q/\K (.slice (some a) 0 n) Q) U:=by
  intro c W;refine Jm λ b V=>⟨_,.refl _,?_⟩
  have:(Array.range n).map (c[· % c.size]!)=(replicate n z).toArray:=by
   apply Array.ext
   .simp
   .intro i h1 h2;have H:n≠0:=by simp at h1;omega
    have B:=W H;rw[N]at B;subst B;simp[Nat.mod_one]
  rw[this];exact h b V
 split
 .rename_i h0;exact fin #[] λ h=>absurd h0 h
 .simp only[Qc,XC G hz];exact fin _ λ _=>rfl
def JT.perm(f:JT U)(h:U.M.Perm M'):JT { U with M:=M' }:=λ r e=>f r (h.mem_iff.2 e)
def Jx.freeze{e n:Nat}{v:Value}{cs:List Value}{A R:List Q2}(H:JT U)(h:Jx e n v cs A)(z:U.M.Perm (A++R)) :
  ∃U'',Q1 U U''/\U''.M=R/\U.frz.lg U''.frz/\∃a len cap,v=.slice a len cap/\cs.length=len*n/\Src U''.frz a cs/\(∀w,a=some w->w.spot=none):=by
 obtain⟨U'',I,u,a,len,cap,B,E,F,G,-⟩:=(h R).freeze (U:={ U with M:=R }) (U':={ U with M:=A++R }) (H.perm z) (λ _ _ h=>h) rfl;exact⟨U'',(Hf z).trans I,u.own,⟨u.imm,⟨[],rfl⟩,u.tok⟩,a,len,cap,B,E,F,G⟩
def Jx.blk{v:Value}(h:Jx e n v cs A)(w:cs≠[]):∃b c len cap,v=.slice (some ⟨b,0,none⟩) len cap/\cs.length=len*n/\len<=cap/\c.size=cap*n/\A=[.obj b (.cells c e (0,0))]/\∀(i:Nat)(x:Value),cs[i]?=some x->c[i]?=some x:=by
 rcases h []with⟨_,u,_⟩|⟨b,c,len,cap,u,z,B,E,G,F⟩
 .exact absurd u w
 .exact⟨b,c,len,cap,u,z,B,E,by simpa using G,F⟩
def Jx.ofBlk{b len:Nat}(f:cs.length=len*n)(w:len<=cap)(z:c.size=cap*n)(B:∀(i:Nat)(x:Value),cs[i]?=some x->c[i]?=some x):Jx e n (.slice (some ⟨b,0,none⟩) len cap) cs [.obj b (.cells c e (0,0))]:=
 λ _=>.inr ⟨b,c,len,cap,rfl,f,w,z,rfl,B⟩
def Acc.room(h:Acc e n (.slice a i k) cs M M₀):i<=k:=by
 rcases h with⟨e,-,-⟩|⟨_,_,_,_,e,-,h,-⟩ <;> cases e
 .exact Nat.le_refl _
 .exact h
section
attribute [local irreducible] Qb Zr W5
def EY:Xf prog 22 9 1:=.of K1
def Lr:prog.underlying 22=some (.slice 9):=K1
def Fu:Xf prog 43 44 1:=.of K1
def Ls:prog.underlying 43=some (.slice 44):=K1
def UW:Xf prog 23 46 4:=.of K1
def TL(a:Option Addr)(len cap:Nat)(l:List ByteArray)(V:Zd U a len 1 l λ s vs=>vs=[.string s])(aa:len<=1000) :
  Qb S 75 #[.slice a len cap] (λ v U'=>(∃a' f w,v=.slice a' f w/\f<=w/\Zd U'.frz a' f 1 l λ s vs=>vs=[.string s])/\U.le U') U:=by
 have K:=V.1
 have P:Qb S 75 #[.slice a len cap] (λ v U'=>Acc 9 1 v (l.map .string) U'.M U.M/\(∀x o,U.I x=some o->U'.I x=some o)/\U'.tok=U.tok) U:=by
  refine Qb.of (args:=[_]) YG Qd S1 ?_
  conv=>whnf
  refine Vv Lr rfl ?_
  conv=>whnf
  apply Qe<;>intro Z
  .have Q:a=none:=by simpa using Z
   subst Q
   have:l=[]:=by
    cases l with
    |nil=>rfl
    |cons x r=>
     obtain⟨z,_,_,_,h,_⟩:=Zd.at V (show 0<len by simp at K;omega);cases h
   subst this
   repeat refine⟨rfl,?_⟩
   conv=>whnf
   exact⟨.nil,λ _ _ h=>h,rfl⟩
  .obtain⟨z,rfl⟩:∃z,a=some z:=by cases a with|none=>cases Z|some z=>exact⟨z,rfl⟩
   conv=>whnf
   intro X ac;refine⟨_,.refl _,?_⟩
   conv=>whnf
   refine Wv (v:=.slice (some ⟨X,0,none⟩) 0 0) (cs:=[]) (new:=l.map .string) (M₀:=U.M) EY rfl rfl .empty (.inr ⟨_,rfl,λ i v E=>?_⟩) (by simp[K]) (by simp[Value.single]) S3 λ v' M' G _=>?_
   .rw[getElem?_map]at E;cases F:l[i]? with
    |none=>rw[F]at E;cases E
    |some x=>
     rw[F]at E;cases E;have hi:i<len:=by have:=(List.getElem?_eq_some_iff.1 F).1;omega
     obtain⟨ab,x',vs,N,e,B,rfl,-,W⟩:=Zd.at V hi;cases e;rw[F]at N;cases N;have T:=W 0 _ rfl;obtain⟨bb,oo,ss⟩:=z;cases B;rw[Qu,Qu,Nat.mul_one,Nat.add_zero]at T;rw[Qu];exact T.lg (Z6 X _)
   obtain⟨ta,tl,tc,rfl,-,-⟩:=Acc.src (U:={ U with M:=M' }) G
   repeat refine⟨rfl,?_⟩
   conv=>whnf
   exact⟨by simpa using G,λ _ _ h=>h,rfl⟩
 refine P.sep λ v U' T⟨Q,hI,ht⟩=>?_;obtain⟨U'',k1,k2,a',f,w,rfl,H,L,B,_⟩:=Q.freeze T hI ht;refine⟨U'',k1,⟨a',f,w,rfl,Q.room,?_⟩,k2⟩;refine⟨by simp at H;exact H,λ i x F=>?_⟩;rcases L with⟨_,hn⟩|⟨z,rfl,W⟩
 .rw[map_eq_nil_iff]at hn;subst hn;simp at F
 .refine⟨z,[.string x],rfl,B z rfl,rfl,rfl,λ k v E=>?_⟩;cases k with
  |zero=>
   simp at E;subst E;have Y:=W i (.string x) (by simp[F]);obtain⟨bb,oo,ss⟩:=z;cases B ⟨bb,oo,ss⟩ rfl;rw[Qu]at Y;rw[Qu,Qu,Nat.mul_one,Nat.add_zero];exact Y
  |succ k=>simp at E
end
variable{U':Qa T}{R':Value->Qa T->Prop}{α:Type}{g:List α}{L:α}
def Qb.okv(h:Qb d f args K U)(z:∀v U',(∃w,U'.ok w)->K v U'->∃U'',Q1 U' U''/\R' v U''):Qb d f args R' U:=by
 intro Stop m c cs k;refine h Stop m c cs λ v U' r=>?_;by_cases e:∃w,U'.ok w
 .obtain⟨U'',h1,h2⟩:=z v U' e r;exact .shift h1 (k v _ h2)
 .exact .priv ⟨rfl,λ w ok=>absurd ⟨w,ok⟩ e⟩
def K0(h:∃w,U.ok w):JT U:=let ⟨_,ok⟩:=h;ok.sep
def D9(h:∃w,U.ok w)(k:Q1 U U'):∃w,U'.ok w:=let ⟨w,ok⟩:=h;⟨w,(k.2 w ok).1⟩
structure ZP where
 ga:Option Addr
 gl:Nat
 gc:Nat
 v:Value
 F:List Q2
def ZF(p:Cs×ZP):List Value:=[.string p.1.nm,.int .i64 p.1.ag,.slice p.2.ga p.2.gl p.2.gc,p.2.v]
structure X8(U:Qa T)(p:Cs×ZP):Prop where
 gs:Wt U.frz p.2.ga p.2.gl p.1.gs
 gl:p.2.gl<2^60
 af:Jx 3 1 p.2.v (p.1.af.map λ n=>.int .i64 n) p.2.F
 nm:p.1.nm.size<2^60
 al:p.1.af.length<=1000
def X8.lg{p:Cs×ZP}(h:X8 U p)(k:U.frz.lg U'.frz):X8 U' p:=⟨h.gs.lg k,h.gl,h.af,h.nm,h.al⟩
def Q6{α β:Type}{f:α->List β}{n:Nat}(e:∀a,(f a).length=n):∀l:List α,(l.flatMap f).length=l.length*n
 |[]=>S1
 |a::l=>by simp only[flatMap_cons,length_append,e,Q6 e l,length_cons,Nat.succ_mul];omega
def Z1(p:Cs×ZP):(ZF p).length=4:=rfl
def P2{f:α->List T}(e:∀L,(f L).length=n)(h:g[i]?=some L)(w:k<n):(g.flatMap f)[i*n+k]?=(f L)[k]?:=by
 induction g generalizing i with
 |nil=>cases h
 |cons b g z=>
  cases i with
  |zero=>
   simp at h;subst h;rw[flatMap_cons,Nat.zero_mul,Nat.zero_add,getElem?_append_left (by rw[e];exact w)]
  |succ i=>
   simp at h;rw[flatMap_cons,getElem?_append_right (by rw[e,Nat.succ_mul];omega),e];rw[<- z h];congr 1;rw[Nat.succ_mul];omega
structure QX(U:Qa T)(h:BH)(b:Bk)(M₀:List Q2):Prop where
 ex:∃(ps:List (Cs×ZP))(A:List Q2),ps.map (·.1)=b.cs/\(∀p∈ps,X8 U p)/\Jx 46 4 (.slice h.ca h.cl h.cc) (ps.flatMap ZF) A/\U.M.Perm (A++(ps.flatMap (·.2.F)++M₀))
 rs:Zd U.frz h.ra h.rl 1 b.rs λ s vs=>vs=[.string s]
 rl:h.rl<2^60
 rn:∀s∈b.rs,s.size<2^60
 rc:h.rl<=h.rc
def QX.le{h:BH}{b:Bk}{M₀:List Q2}(k:QX U h b M₀)(e:U.le U'):QX U' h b M₀:=
 let ⟨ps,A,h1,h2,h3,h4⟩:=k.ex
 ⟨⟨ps,A,h1,λ p f=>(h2 p f).lg e.lg.frz2,h3,by rw[e.own];exact h4⟩,k.rs.lg e.lg.frz2 λ _ _ h=>h,k.rl,k.rn,k.rc⟩
def O_:∀(ps:List (Cs×ZP)){U:Qa T}{R:List Q2},(∃w,U.ok w)->(∀p∈ps,X8 U p)->U.M.Perm (ps.flatMap (·.2.F)++R) ->
  ∃U'',Q1 U U''/\U''.M.Perm R/\U.frz.lg U''.frz/\∀p∈ps,∃H al ac,p.2.v=.slice H al ac/\Z8 U''.frz H al p.1.af/\al<2^60
 |[],U,R,_,_,E=>⟨U,.refl _,by simpa using E,⟨λ _ _ h=>h,⟨[],rfl⟩,rfl⟩,S1⟩
 |p::ps,U,R,L,f,E=>by
  have K:=f p (mem_cons_self ..);rw[flatMap_cons,append_assoc]at E;obtain⟨d,N,W,P,a,len,cap,e,I,B,G⟩:=K.af.freeze (K0 L) E;obtain⟨V,X,Y,Q,Z⟩:=O_ ps (U:=d) (R:=R) (D9 L N) (λ q z=>(f q (mem_cons_of_mem _ z)).lg P) (by rw[W]);refine⟨V,N.trans X,Y,P.trans Q,λ q z=>?_⟩;rcases mem_cons.1 z with rfl|z
  .simp at I;subst I;exact⟨a,_,cap,e,(VS B G).lg Q,by have:=K.al;omega⟩
  .exact Z q z
def QX.freeze{h:BH}{b:Bk}{M₀:List Q2}(k:QX U h b M₀)(X:∃w,U.ok w)(ab:b.cs.length<=1000):∃U'',Q1 U U''/\U''.M=M₀/\U.frz.lg U''.frz/\Zu U''.frz h b:=by
 obtain⟨ps,A,P,L,h3,h4⟩:=k.ex
 have Q:U.M.Perm (ps.flatMap (·.2.F)++(A++M₀)):=h4.trans (by
  rw[<- append_assoc,<- append_assoc];exact Perm.append_right _ perm_append_comm)
 obtain⟨U1,Z,k2,T,k4⟩:=O_ ps X L Q;obtain⟨U2,m1,m2,N,a,len,cap,e,hl,I,H⟩:=h3.freeze (K0 (D9 X Z)) k2;cases e;rw[Q6 Z1]at hl;have E:b.cs.length=h.cl:=by rw[<- P,length_map];omega
 refine⟨U2,Z.trans m1,m2,T.trans N,k.rs.lg (T.trans N) λ _ _ h=>h,⟨E,λ i c f=>?_⟩,k.rl,O1,k.rn,λ c f=>?_⟩
 .have hpi:∃p,ps[i]?=some p/\p.1=c:=by
   rw[<- P,getElem?_map]at f;cases Y:ps[i]? with
   |none=>rw[Y]at f;cases f
   |some p=>rw[Y]at f;cases f;exact⟨p,rfl,rfl⟩
  obtain⟨p,G,rfl⟩:=hpi;have B:=mem_of_getElem? G;obtain⟨aa,al,ac,ev,hi,d⟩:=k4 p B;rcases I with⟨_,hn⟩|⟨K,z,hr⟩
  .have:ps=[]:=by
    cases ps with
    |nil=>rfl
    |cons q r=>simp[ZF]at hn
   subst this;cases G
  .refine⟨K,ZF p,z,H K z,⟨p.2.ga,p.2.gl,p.2.gc,aa,al,ac,by rw[<- ev];rfl,(L p B).gs.lg (T.trans N),(L p B).gl,hi.lg N,d⟩,rfl,λ j v W=>?_⟩;have hj:j<4:=by have:=(List.getElem?_eq_some_iff.1 W).1;exact this
   have V:=hr (i*4+j) v (by rw[P2 Z1 G hj];exact W);have hs:=H K z;obtain⟨bb,oo,ss⟩:=K;cases hs;rw[Qu]at V;rw[Qu,Qu,Nat.add_assoc];exact V
 .rw[<- P]at f;obtain⟨p,G,rfl⟩:=mem_map.1 f;exact(L p G).nm
section
attribute [local irreducible] Qb Zr W5
def Lh:∃e,prog.info? 44=some e/\e.zero=some .nl/\e.size=1/\e.bytes<=64:=by
 have f:(prog.info? 44).map (·.zero)=some (some .nl):=K1
 have w:(prog.info? 44).map (·.size)=some 1:=K1
 have z:(prog.info? 44).map (λ i=>decide (i.bytes<=64))=some true:=K1
 cases h:prog.info? 44 with
 |none=>rw[h]at f;cases f
 |some e=>
  rw[h]at f w z;exact⟨e,rfl,Option.some.inj f,Option.some.inj w,by simpa using z⟩
def TQ(c:Cs)(ga E:Option Addr)(gl gc al ac:Nat)(hg:Wt U.frz ga gl c.gs)(bs:gl<=1000)(ha:Z8 U.frz E al c.af)(bm:al<=1000)(bd:∀g∈c.gs,g.length<=1000)(bf:c.nm.size<2^60) :
  Qb S 76 #[.agg #[.string c.nm,.int .i64 c.ag,.slice ga gl gc,.slice E al ac]] (λ v U'=>(∃k:ZP,v=.agg (ZF (c,k)).toArray/\X8 U' (c,k)/\U'.M=k.F++U.M)/\(∀x o,U.I x=some o->U'.I x=some o)/\U'.tok=U.tok) U:=by
 have bl:=hg.1;have bj:=ha.1
 have a0:Qb S 76 #[.agg #[.string c.nm,.int .i64 c.ag,.slice ga gl gc,.slice E al ac]] (λ v U'=>∃g v' cells G F Y,v=.agg #[.string c.nm,.int .i64 c.ag,g,v']/\Jx 44 1 g cells G/\Xr U' cells c.gs/\Jx 3 1 v' (c.af.map λ n=>.int .i64 n) F/\U'.M=F++(G++(Y++U.M))/\(∀x o,U.I x=some o->U'.I x=some o)/\U'.tok=U.tok) U:=by
  refine Qb.of (args:=[_]) YH Qd S1 ?_;obtain⟨bw,i1,i2,i3,i4⟩:=Lh
  conv=>whnf
  intro K bp
  conv=>whnf
  intro L bq;refine⟨_,.refl _,?_⟩;have hM:((U.put K (.cells [.string c.nm,.int .i64 c.ag,.slice ga gl gc,.slice E al ac].toArray 46)).put L (.cells #[.string ⟨#[]⟩,.int .i64 0,.nl,.nl] 46)).M=[.obj L (.cells #[.string ⟨#[]⟩,.int .i64 0,.nl,.nl] 46 (0,0))]++.cl K [.string c.nm,.int .i64 c.ag,.slice ga gl gc,.slice E al ac] 46::U.M:=rfl;have bu:U.frz.lg ((U.put K (.cells [.string c.nm,.int .i64 c.ag,.slice ga gl gc,.slice E al ac].toArray 46)).put L (.cells #[.string ⟨#[]⟩,.int .i64 0,.nl,.nl] 46)):=⟨λ _ _ h=>h,Zz3,rfl⟩;refine⟨_,(Ze [_] hM).cell (i:=2) rfl,?_⟩
  conv=>whnf
  refine Bq (n:=gl) Ls i1 i2 rfl i3 i4 rfl rfl O1 λ bg bo=>?_;have a4:(((U.put K (.cells [.string c.nm,.int .i64 c.ag,.slice ga gl gc,.slice E al ac].toArray 46)).put L (.cells #[.string ⟨#[]⟩,.int .i64 0,.nl,.nl] 46)).put bg (.cells (replicate gl (Value.slice none 0 0)).toArray 44)).M=[.obj bg (.cells (replicate gl (Value.slice none 0 0)).toArray 44 (0,0)),.obj L (.cells #[.string ⟨#[]⟩,.int .i64 0,.nl,.nl] 46 (0,0))]++.cl K [.string c.nm,.int .i64 c.ag,.slice ga gl gc,.slice E al ac] 46::U.M:=rfl;refine⟨_,(Ze [_,_] a4).cell (i:=2) rfl,Nat×Value,λ y=>[(1,.pb K),(2,.pb L),(3,y.2),(11,.slice ga gl gc),(12,.int .i64 gl),(13,.int .i64 y.1)],
   λ y U'=>U.frz.lg U'/\(∃A cells,U'.M=A++([.obj L (.cells #[.string ⟨#[]⟩,.int .i64 0,.nl,.nl] 46 (0,0)),.cl K [.string c.nm,.int .i64 c.ag,.slice ga gl gc,.slice E al ac] 46]++U.M)/\Jx 44 1 y.2 cells A/\Xr U' cells (c.gs.take y.1))/\y.1<=gl,λ y=>gl-y.1,(0,.slice (some ⟨bg,0,none⟩) 0 gl),T1,⟨⟨λ _ _ h=>h,Zz3,rfl⟩,⟨[_],[],rfl,.ofBlk rfl O1 S1 S1,⟨rfl,S1⟩⟩,O1⟩,?_⟩
  rintro⟨i,v⟩f U1⟨H,⟨A,cells,V,z,w⟩,hi⟩;simp only at z w hi;obtain⟨sa,sl,sc,rfl,bv⟩:=z.src;have be:Je ((i:Int)+1):=I1
  have bb:=w.1;rw[length_take]at bb
  repeat refine⟨rfl,?_⟩
  conv=>whnf
  apply Qe<;>intro hc
  .have hlt:i<gl:=by simpa using hc
   obtain⟨ad,g,vs,hx,rfl,au,⟨a',az,Z,rfl,am,br⟩,-,bh⟩:=Zd.at (Wt.lg hg H) hlt;have bt:=bd g (mem_of_getElem? hx);have bk:=am.1;refine⟨ad,i,⟨rfl,rfl,hlt⟩,_,bh 0 _ rfl,P9.any,(Qb.ints (e:=3) (TV a' az Z g am O1)).mono ?_⟩;rintro _ U2⟨⟨ca,cc,rfl,ba⟩,a7⟩-
   conv=>whnf
   intro bn bc;refine Zm bc λ U3 ak W=>?_;have W:Zo U3 bn #[.slice ca g.length cc]:=W;have B:=a7.trans ak
   have X:Xr U3 (cells++[.slice ca g.length cc]) (c.gs.take (i+1)):=by
    rw[Wm hx];exact(w.lg B.lg.frz2).snoc (ba.lg ak.lg.frz2) O1
   conv=>whnf
   refine Wv (v:=.slice sa sl sc) (cs:=cells) (new:=[.slice ca g.length cc]) (M₀:=[.obj L (.cells #[.string ⟨#[]⟩,.int .i64 0,.nl,.nl] 46 (0,0)),.cl K [.string c.nm,.int .i64 c.ag,.slice (some ad) gl gc,.slice E al ac] 46]++U.M) Fu rfl rfl (by rw[B.own,V];exact z _) (.inr ⟨_,rfl,W.rd⟩) rfl (by simp[Value.single]) S3 λ v' M' a8 _=>?_;obtain⟨a1,a3,Q⟩:=a8.split;obtain⟨ta,tl,tc,rfl,-⟩:=Q.src;have ao:U.frz.lg ({ U3 with M:=M' }:Qa T):=⟨λ x o h=>B.imm x o (H.imm x o h),Zz3,B.tok.trans H.tok⟩;refine⟨be,?_⟩
   conv=>whnf
   exact⟨rfl,(i+1,.slice ta tl tc),T1,⟨ao,⟨a1,_,a3,Q,X.lg ⟨λ _ _ h=>h,⟨[],rfl⟩,rfl⟩⟩,by show i+1<=gl;omega⟩,L1⟩
  .have hge:i=c.gs.length:=by simp at hc;omega
   subst hge;rw[take_length]at w;have aq:=Ze (U:=U1) (b:=K) (e:=46) (M₀:=U.M) (vs:=[.string c.nm,.int .i64 c.ag,.slice ga gl gc,.slice E al ac]) (A++[.obj L (.cells #[.string ⟨#[]⟩,.int .i64 0,.nl,.nl] 46 (0,0))]) (by rw[V];simp);refine⟨_,aq.cell (i:=3) rfl,P9.any,(TV E al ac c.af (ha.lg H) O1).mono ?_⟩;rintro v U2⟨a9,ab,aw⟩-;obtain⟨F,a6,hF⟩:=a9.split;obtain⟨fa,fl,fc,rfl,-⟩:=hF.src;have a5:U2.M=(F++A++[.obj L (.cells #[.string ⟨#[]⟩,.int .i64 0,.nl,.nl] 46 (0,0))])++.cl K [.string c.nm,.int .i64 c.ag,.slice ga gl gc,.slice E al ac] 46::U.M:=by rw[a6,V];simp
   refine⟨rfl,WS (i:=2) (v:=.slice sa sl sc) _ a5 (by show 2<4;omega) rfl λ U3 a2 ax aj=>?_⟩;refine⟨rfl,WS (i:=3) (v:=.slice fa fl fc) _ aj (by show 3<4;omega) rfl λ U4 ae bi N=>?_⟩;have N:U4.M=(F++A++[.obj L (.cells #[.string ⟨#[]⟩,.int .i64 0,.nl,.nl] 46 (0,0))])++.cl K [.string c.nm,.int .i64 c.ag,.slice sa sl sc,.slice fa fl fc] 46::U.M:=N;have ai:U4.M=(F++A)++.obj L (.cells #[.string ⟨#[]⟩,.int .i64 0,.nl,.nl] 46 (0,0))::.cl K [.string c.nm,.int .i64 c.ag,.slice sa sl sc,.slice fa fl fc] 46::U.M:=by rw[N];simp
   refine⟨_,⟨rfl,Ze _ N⟩,rfl,Wk (vs:=[.string c.nm,.int .i64 c.ag,.slice sa sl sc,.slice fa fl fc]) _ ai rfl (by simp[Value.single]) λ U5 ah ay P=>?_⟩;refine⟨_,⟨rfl,Ze _ P⟩,?_⟩;have hz:U1.frz.lg U5.frz:=⟨λ x o h=>by show U5.I x=_;rw[ah,ae,a2];exact ab x o h,⟨[],rfl⟩,by show U5.tok=_;rw[ay,bi,ax];exact aw⟩
   conv=>whnf
   exact⟨_,_,cells,A,F,[_,_],rfl,z,w.lg hz,hF,by rw[P];simp;exact⟨rfl,rfl⟩,λ x o h=>hz.imm x o (H.imm x o h),hz.tok.trans H.tok⟩
 refine a0.okv λ v U' hw⟨g,v',cells,G,F,Y,hv,hG,w,hF,hM,hI,ht⟩=>?_
 have hp:U'.M.Perm (G++(F++(Y++U.M))):=by
  rw[hM];exact perm_append_comm_assoc _ _ _
 obtain⟨U1,k1,k2,k3,a,len,cap,rfl,hl,av,au⟩:=hG.freeze (K0 hw) hp;have an:c.gs.length=len:=by rw[<- w.1];omega
 have ap:=(w.lg k3).lists av au;rw[an]at ap;refine⟨{ U1 with M:=F++U.M },k1.trans (Z2 (by rw[k2];exact(Sublist.refl F).append (sublist_append_right Y U.M))),⟨⟨a,len,cap,v',F⟩,hv,⟨ap,by show len<_;omega,hF,bf,by show c.af.length<=_;omega⟩,rfl⟩,λ x o h=>k3.imm x o (hI x o h),k3.tok.trans ht⟩
def Sp:List (List (Nat×St)):=[[(0,⟨.off 1 (.tmp 3),some 19,none,none⟩),(0,⟨.ld (.tmp 19),some 20,none,none⟩),(0,⟨.ldn 4 (.tmp 5),some 21,none,none⟩),(2,⟨.call (.func 76) #[(.tmp 21)],some 22,none,none⟩),(2,⟨.bsl 46 1 #[(.string ⟨#[]⟩),(.int .i64 0),.nl,.nl] [(0,4,(.tmp 22))],some 23,none,none⟩)]]
def AW:List St:=[⟨.rw (.call { callee:=.builtin .append,args:=#[(.tmp 20),(.tmp 23)],argTypes:=#[23,23] }) 23,some 24,none,none⟩,⟨.off 1 (.tmp 3),some 25,none,none⟩,⟨.st 1 (.tmp 25) (.tmp 24),none,none,none⟩]
def Se:List (List (Nat×St)):=[[(0,⟨.off 1 (.tmp 10),some 152,none,none⟩),(0,⟨.ld (.tmp 152),some 153,none,none⟩),(0,⟨.mv (.tmp 15),some 154,none,none⟩),(0,⟨.off 1 (.tmp 10),some 155,none,none⟩),(0,⟨.ld (.tmp 155),some 156,none,none⟩),(0,⟨.mv (.tmp 15),some 157,none,none⟩),(0,⟨.idx 4 (.tmp 156) (.tmp 157),some 158,none,none⟩),(0,⟨.off 3 (.tmp 158),some 159,none,none⟩),(0,⟨.ld (.tmp 159),some 160,none,none⟩),(0,⟨.mv (.tmp 17),some 161,none,none⟩),(2,⟨.bsl 3 1 #[(.int .i64 0)] [(0,1,(.tmp 161))],some 162,none,none⟩),(2,⟨.rw (.call { callee:=.builtin .append,args:=#[(.tmp 160),(.tmp 162)],argTypes:=#[44,44] }) 44,some 163,none,none⟩)]]
def RZ:List St:=[⟨.idx 4 (.tmp 153) (.tmp 154),some 164,none,none⟩,⟨.off 3 (.tmp 164),some 165,none,none⟩,⟨.st 1 (.tmp 165) (.tmp 163),none,none,none⟩]
end
variable{h:BH}
def Zd.case(k:Zd U h.ca h.cl 4 b.cs (PK U))(K:i<h.cl) :
  ∃e c ga gl gc f al ac,b.cs[i]?=some c/\h.ca=some e/\e.spot=none/\Ju U (e.add (i*4)) [.string c.nm,.int .i64 c.ag,.slice ga gl gc,.slice f al ac]/\Wt U ga gl c.gs/\gl<2^60/\Z8 U f al c.af/\al<2^60/\c∈b.cs:=by
 obtain⟨e,c,vs,E,w,B,⟨ga,gl,gc,f,al,ac,rfl,F,G,H,I⟩,-,z⟩:=k.at K;exact⟨e,c,ga,gl,gc,f,al,ac,E,w,B,z,F,G,H,I,mem_of_getElem? E⟩
structure Bk.Sml(b:Bk):Prop where
 rs:b.rs.length<=1000
 cs:b.cs.length<=1000
 gs:∀c∈b.cs,c.gs.length<=1000/\(∀g∈c.gs,g.length<=1000)/\c.af.length<=1000
section
attribute [local irreducible] Qb Zr W5
def AT(h:BH)(b:Bk)(hb:Zu U.frz h b)(hs:b.Sml) :
  Qb S 37 #[h.v] (λ v U'=>(∃X:BH,v=X.v/\QX U' X b U.M)/\(∀x o,U.I x=some o->U'.I x=some o)/\U'.tok=U.tok) U:=by
 have ce:=hb.cs.1;have cm:=hb.rs.1;have co:=hs.rs;have cp:=hs.cs
 have bl:Qb S 37 #[h.v] (λ v U'=>∃(X:BH)(ps:List (Cs×ZP))(A R Y:List Q2),v=X.v/\ps.map (·.1)=b.cs/\(∀p∈ps,X8 U' p)/\Jx 46 4 (.slice X.ca X.cl X.cc) (ps.flatMap ZF) A/\U'.M=A++(R++(Y++U.M))/\R.Perm (ps.flatMap (·.2.F))/\Zd U'.frz X.ra X.rl 1 b.rs (λ s vs=>vs=[.string s])/\X.rl<=X.rc/\(∀x o,U.I x=some o->U'.I x=some o)/\U'.tok=U.tok) U:=by
  refine Qb.of (args:=[_]) Dw Qd S1 ?_
  repeat refine⟨rfl,?_⟩
  conv=>whnf
  intro B U1 ax hB;have hB:=Zz4 h hB
  conv=>whnf
  intro P cf;refine⟨_,.refl _,?_⟩;have a4:=Z6 (U:=U1) P (.cells #[.nl,.nl] 64);refine⟨_,(hB.lg a4).sees3 (o:=0) rfl,YG.any,(TL h.ra h.rl h.rc b.rs ((hb.rs.lg (ax.lg.frz2.trans a4.frz2) λ _ _ h=>h).lg Qy λ _ _ h=>h) O1).mono ?_⟩;rintro _ U2⟨⟨ra,rl,rc,rfl,N,an⟩,bb⟩-
  conv=>whnf
  intro H cg;refine⟨_,.refl _,rfl,HR (vs:=[.slice ra rl rc,.nl]) rfl (by simp[Value.single]) ?_⟩;have bi:=Z6 (U:=U2) H (.cells #[.slice ra rl rc,.nl] 25);have au:U1.lg U2:=a4.trans bb.lg;refine⟨_,(hB.lg (au.trans bi)).sees3 (o:=1) rfl,?_⟩;have V:U.frz.lg U2.frz:=ax.lg.frz2.trans au.frz2
  refine⟨Nat×Value,λ y=>[(1,.pb B),(2,.pb P),(3,.pb H),(13,.slice h.ca h.cl h.cc),(14,.int .i64 h.cl),(15,.int .i64 y.1)],
   λ y U'=>U2.frz.lg U'/\(∃(ps:List (Cs×ZP))(A R:List Q2),ps.map (·.1)=b.cs.take y.1/\(∀p∈ps,X8 U' p)/\Jx 46 4 y.2 (ps.flatMap ZF) A/\R.Perm (ps.flatMap (·.2.F))/\U'.M=A++(R++([.cl H [.slice ra rl rc,y.2] 25,.obj P (.cells #[.nl,.nl] 64 (0,0))]++U.M)))/\y.1<=h.cl,
   λ y=>h.cl-y.1,(0,.nl),T1,⟨⟨λ _ _ h=>h,Zz3,rfl⟩,⟨[],[],[],rfl,S1,.nil,.refl _,?_⟩,O1⟩,?_⟩
  .show _::U2.M=_;rw[bb.own];show _::_::U1.M=_;rw[ax.own];rfl
  rintro⟨i,v⟩f U3⟨K,⟨ps,A,R,L,am,E,hR,Q⟩,hi⟩;simp only at L E Q hi;obtain⟨sa,sl,sc,rfl,cq⟩:=E.src;have bv:Je ((i:Int)+1):=I1
  have bx:ps.length=i:=by
   have:=congrArg List.length L;rw[length_map,length_take]at this;omega
  repeat refine⟨rfl,?_⟩
  conv=>whnf
  apply Qe<;>intro hc
  .have hlt:i<h.cl:=by simpa using hc
   obtain⟨ad,c,ga,gl,gc,aa,al,ac,hx,bs,b8,bz,hg,ck,ha,b9,av⟩:=hb.case hlt;obtain⟨ch,bu,cj⟩:=hs.gs c av;have b6:=hg.1;have b4:=ha.1;refine⟨ad,i,⟨bs,rfl,hlt⟩,_,⟨rfl,(bz.lg V).lg K⟩,?_⟩
   conv=>whnf
   intro b5 bt;refine⟨_,.refl _,rfl,Zy (vs:=[.string c.nm,.int .i64 c.ag,.slice ga gl gc,.slice aa al ac]) bt rfl (by simp[Value.single]) λ U4 ay br=>?_⟩;have ae:=ay.own.trans Q;have a2:=K.trans ay.lg;have ap:U.frz.lg U4.frz:=V.trans a2.frz2;have bd:=hb.cn c av
   let Ub:Qa T:={ U4 with M:=R++([.cl H [.slice ra rl rc,.slice sa sl sc] 25,.obj P (.cells #[.nl,.nl] 64 (0,0))]++U.M) }
   have bp:Ub.lg U4:=⟨λ _ _ h=>h,⟨A,ae⟩,rfl⟩;have bj:Ju Ub ⟨H,0,none⟩ [.slice ra rl rc,.slice sa sl sc]:=Ze R rfl;have bc:Zo Ub b5 #[.string c.nm,.int .i64 c.ag,.slice ga gl gc,.slice aa al ac]:=br
   conv=>whnf
   intro b1 ai
   refine Uv (mu:=[1005]) (ops:=PN Tryz.f37 5) (id:=5) ai Ub bp [3,4] [[0,1,2,3,4]] [5,6,7] Sp AW Qd K1 K1 K1 K1 K1
    (λ f' a6 U'=>a6=[]/\∃(z:Nat)(k:ZP),XH f' [(1,.pb B),(2,.pb P),(3,.pb H),(13,.slice h.ca h.cl h.cc),(14,.int .i64 h.cl),(15,.int .i64 i),(20,.slice sa sl sc),(23,.slice (some ⟨z,0,none⟩) 1 1)]/\X8 U' (c,k)/\Zo U' z (ZF (c,k)).toArray/\U4.frz.lg U'/\U'.M=A++(k.F++(R++([.cl H [.slice ra rl rc,.slice sa sl sc] 25,.obj P (.cells #[.nl,.nl] 64 (0,0))]++U.M)))) ?_ ?_
   .intro l Z;simp only[Sp,mem_cons,not_mem_nil,or_false]at Z;subst Z;refine⟨_,bj.cell (i:=1) rfl,_,⟨rfl,bc.rd⟩,?_⟩;refine⟨λ v U'=>∃k:ZP,v=.agg (ZF (c,k)).toArray/\X8 U' (c,k)/\U4.frz.lg U'/\U'.M=A++(k.F++(R++([.cl H [.slice ra rl rc,.slice sa sl sc] 25,.obj P (.cells #[.nl,.nl] 64 (0,0))]++U.M))),λ v U1 U2⟨k,e,hk,Z,Q⟩w=>⟨k,e,hk.lg w.lg.frz2,Z.trans w.lg,w.own.trans Q⟩,λ v U'⟨k,e,hk,Z,Q⟩=>⟨Z.imm,⟨A++k.F,by rw[Q];simp[Ub]⟩,Z.tok⟩,λ U' hC=>?_,λ v hv=>?_⟩
    .have w:=hC;refine⟨YH.any,(TQ c ga aa gl gc al ac (hg.lg (ap.trans w.lg.frz2)) O1 (ha.lg (ap.trans w.lg.frz2)) O1 bu bd).mono ?_⟩;rintro v U''⟨⟨k,e,hk,bo⟩,hI,ht⟩-
     have hp:U''.M.Perm (A++(k.F++(R++([.cl H [.slice ra rl rc,.slice sa sl sc] 25,.obj P (.cells #[.nl,.nl] 64 (0,0))]++U.M)))):=by
      rw[bo,w.own,ae];exact perm_append_comm_assoc _ _ _
     exact⟨_,Hf hp,k,e,hk.lg ⟨λ _ _ h=>h,⟨[],rfl⟩,rfl⟩,⟨λ x o hx=>hI x o (w.imm x o hx),Zz3,ht.trans w.tok⟩,rfl⟩
    obtain⟨_,⟨cr,cu,ct,kv,kF⟩,rfl,bw,-⟩:=hv;obtain⟨a0,l0,c0,e0,-⟩:=bw.af.src;obtain rfl:kv=.slice a0 l0 c0:=e0;refine⟨λ v U'=>∃(z:Nat)(k':ZP),v=.slice (some ⟨z,0,none⟩) 1 1/\X8 U' (c,k')/\Zo U' z (ZF (c,k')).toArray/\U4.frz.lg U'/\U'.M=A++(k'.F++(R++([.cl H [.slice ra rl rc,.slice sa sl sc] 25,.obj P (.cells #[.nl,.nl] 64 (0,0))]++U.M))),λ v U1 U2⟨z,k,e,hk,G,Z,Q⟩w=>⟨z,k,e,hk.lg w.lg.frz2,G.le w,Z.trans w.lg,w.own.trans Q⟩,λ v U'⟨z,k,e,hk,G,Z,Q⟩=>⟨Z.imm,⟨A++k.F,by rw[Q];simp[Ub]⟩,Z.tok⟩,λ U' hC=>?_,λ v hv=>?_⟩
    .obtain⟨k',e,az,a1,ab⟩:=hC
     conv=>whnf
     intro z be;refine Zm be λ U'' w G=>⟨_,.refl _,z,k',rfl,az.lg w.lg.frz2,?_,a1.trans w.lg,w.own.trans ab⟩;have e':=toArray_inj (Value.agg.inj e);rw[<- e'];exact G
    obtain⟨_,z,k2,rfl,-⟩:=hv
    conv=>whnf
    rintro U'⟨a5,k',e,az,G,a1,ab⟩;obtain rfl:z=a5:=by simpa using e
    exact⟨rfl,z,k',T1,az,G,a1,ab⟩
   rintro f' a6 U5⟨rfl,z,k,bf,hk,G,a3,ba⟩;rw[<- bf.ovr];clear bf;have bh:(ps.flatMap ZF).length=i*4:=by rw[Q6 Z1,bx]
   conv=>whnf
   refine Wv (v:=.slice sa sl sc) (cs:=ps.flatMap ZF) (new:=ZF (c,k)) (M₀:=k.F++(R++([.cl H [.slice ra rl rc,.slice sa sl sc] 25,.obj P (.cells #[.nl,.nl] 64 (0,0))]++U.M))) UW rfl rfl (by rw[ba];exact E _) (.inr ⟨_,rfl,G.rd⟩) rfl (by
    have:=hk.af.src;obtain⟨a0,l0,c0,e0,-⟩:=this;simp only[ZF];rw[show k.v=.slice a0 l0 c0 from e0];simp[Value.single]) (by rw[bh,Z1];omega) λ v' M' bq _=>?_
   obtain⟨aw,ab,ao⟩:=bq.split;obtain⟨ta,tl,tc,rfl,-⟩:=ao.src;have bm:({ U5 with M:=M' }:Qa T).M=(aw++(k.F++R))++.cl H [.slice ra rl rc,.slice sa sl sc] 25::.obj P (.cells #[.nl,.nl] 64 (0,0))::U.M:=by show M'=_;rw[ab];simp
   refine⟨rfl,WS (i:=1) (v:=.slice ta tl tc) _ bm (by show 1<2;omega) rfl λ U6 a8 bk ah=>?_⟩;have ah:U6.M=aw++((k.F++R)++([.cl H [.slice ra rl rc,.slice ta tl tc] 25,.obj P (.cells #[.nl,.nl] 64 (0,0))]++U.M)):=by rw[ah];simp
   have aq:U5.frz.lg U6.frz:=⟨λ x o hx=>by show U6.I x=_;rw[a8];exact hx,⟨[],rfl⟩,bk⟩;have bg:U4.frz.lg U6.frz:=a3.frz2.trans aq;have aj:U3.frz.lg U6.frz:=ay.lg.frz2.trans bg
   conv=>whnf
   intro a' ak;refine⟨by rw[ak.size,ai.size],_,ak.get,?_⟩;rw[ak.ds];clear ak ai;refine⟨bv,rfl,(i+1,.slice ta tl tc),T1,⟨⟨λ x o hx=>aj.imm x o (K.imm x o hx),Zz3,aj.tok.trans K.tok⟩,⟨ps++[(c,k)],aw,k.F++R,?_,?_,?_,?_,ah⟩,by show i+1<=h.cl;omega⟩,L1⟩
   .rw[map_append,L,Wm hx];rfl
   .intro p hp;rcases mem_append.1 hp with hp|hp
    .exact(am p hp).lg aj
    .rw[mem_singleton.1 hp];exact hk.lg aq
   .rw[flatMap_append];simpa using ao
   .rw[flatMap_append];simp only[flatMap_cons,flatMap_nil,append_nil];exact(Perm.append_left k.F hR).trans perm_append_comm
  .have hge:i=b.cs.length:=by simp at hc;omega
   subst hge;rw[take_length]at L;have bn:U3.M=(A++R)++.cl H [.slice ra rl rc,.slice sa sl sc] 25::.obj P (.cells #[.nl,.nl] 64 (0,0))::U.M:=by rw[Q];simp
   have a9:U3.M=(A++R++[.cl H [.slice ra rl rc,.slice sa sl sc] 25])++.obj P (.cells #[.nl,.nl] 64 (0,0))::U.M:=by rw[Q];simp
   refine⟨_,⟨rfl,Ze _ bn⟩,rfl,Wk (vs:=[.slice ra rl rc,.slice sa sl sc]) _ a9 rfl (by simp[Value.single]) λ U4 a7 b0 ae=>?_⟩;have W:U3.frz.lg U4.frz:=⟨λ x o hx=>by show U4.I x=_;rw[a7];exact hx,⟨[],rfl⟩,b0⟩;refine⟨_,⟨rfl,Ze _ ae⟩,?_⟩
   conv=>whnf
   exact⟨⟨ra,rl,rc,sa,sl,sc⟩,ps,A,R,[_,_],rfl,L,λ p hp=>(am p hp).lg W,E,by rw[ae];simp;exact⟨rfl,rfl⟩,hR,an.lg (K.frz2.trans W) λ _ _ h=>h,N,λ x o hx=>W.imm x o (K.imm x o (V.imm x o hx)),W.tok.trans (K.tok.trans V.tok)⟩
 refine bl.post λ v U'⟨X,ps,A,R,Y,hv,L,am,E,Q,hR,an,N,hI,ht⟩=>?_;have b7:=an.1;refine⟨{ U' with M:=A++(R++U.M) },Z2 (by rw[Q];exact(Sublist.refl A).append ((Sublist.refl R).append (sublist_append_right Y U.M))),⟨X,hv,⟨⟨ps,A,L,λ p hp=>(am p hp).lg ⟨λ _ _ h=>h,⟨[],rfl⟩,rfl⟩,E,Perm.append_left A (Perm.append_right _ hR)⟩,an.lg ⟨λ _ _ h=>h,⟨[],rfl⟩,rfl⟩ λ _ _ h=>h,O1,hb.rn,N⟩⟩,hI,ht⟩
end
variable{l':List Int}
def Xw(l:List Int):Prop:=l.Pairwise (·<=·)
def Md(h:Xq l' l'.length):Xw l':=by
 rw[Xw,pairwise_iff_getElem];intro i j w f e;exact h i j _ _ e f (getElem?_eq_getElem w) (getElem?_eq_getElem f)
def Ps(n x:Int):∀l:List Int,x∈ZI n l↔x=n\/x∈l
 |[]=>by simp[ZI]
 |y::l=>by
  unfold ZI;split
  .simp only[mem_cons,Ps n x l];constructor
   .rintro(h|h|h) <;> simp[h]
   .rintro(h|h|h) <;> simp[h]
  .simp only[mem_cons]
def YN(n:Int):∀l:List Int,Xw l->Xw (ZI n l)
 |[],_=>by simp[ZI,Xw]
 |y::l,h=>by
  unfold Xw at h;rw[pairwise_cons]at h;unfold ZI;split
  .rename_i hlt;unfold Xw;rw[pairwise_cons];refine⟨λ x e=>?_,YN n l h.2⟩;rcases(Ps n x l).1 e with rfl|e
   .omega
   .exact h.1 x e
  .rename_i hge;unfold Xw;rw[pairwise_cons,pairwise_cons];refine⟨λ x e=>?_,h⟩;rcases mem_cons.1 e with rfl|e
   .omega
   .have:=h.1 x e;omega
def Vr(n:Int):∀l:List Int,(ZI n l).Perm (l++[n])
 |[]=>by simp[ZI]
 |y::l=>by
  unfold ZI;split
  .exact(Vr n l).cons y
  .exact(perm_append_comm (l₁:=[n]) (l₂:=y::l))
def Mj(h:Xw Z)(e:l'.Perm (Z++[B]))(f:Xq l' l'.length):l'=ZI B Z:=
 Perm.eq_of_pairwise (le:=(·<=·)) (λ a b _ _ e f=>O1) (Md f) (YN B Z h) (e.trans (Vr B Z).symm)
def E9(h:g[i]?=some L):∃X Y,g=X++L::Y/\X.length=i/\∀a',g.set i a'=X++a'::Y:=by
 obtain⟨e,rfl⟩:=List.getElem?_eq_some_iff.1 h;refine⟨g.take i,g.drop (i+1),?_,S3,λ a'=>?_⟩
 .rw[getElem_cons_drop,take_append_drop]
 .rw[set_eq_take_append_cons_drop,if_pos e]
section
attribute [local irreducible] Qb Zr W5
def RI(h:BH)(b:Bk)(M₀:List Q2)(ho:QX U h b M₀)(k:Nat)(n:Int)(hk:k<b.cs.length)(ai:Xw (b.cas k).af)(bc:(b.cas k).af.length<=11) :
  Qb S 40 #[h.v,.agg #[.int .i64 k,.int .i64 n]] (λ _ U'=>QX U' h (b.sty ((k:Int),n)) M₀/\(∀x o,U.I x=some o->U'.I x=some o)/\U'.tok=U.tok) U:=by
 obtain⟨ps,A,aq,ao,a5,hM⟩:=ho.ex;have bm:k<ps.length:=by rw[<- aq,length_map]at hk;exact hk
 obtain⟨p,hp⟩:∃p,ps[k]?=some p:=⟨_,getElem?_eq_getElem bm⟩;obtain⟨X,Y,rfl,hX,be⟩:=E9 hp;obtain⟨c,Z,ab,aa,kv,W⟩:=p
 have ae:b.cas k=c:=by
  have:=congrArg (λ l=>l[k]?) aq;simp only[getElem?_map,hp]at this;simp[Bk.cas,getD_eq_getElem?_getD,<- this]
 rw[ae]at ai bc;have ap:=ao _ (mem_of_getElem? hp);obtain⟨a0,l0,c0,e0,bo⟩:=ap.af.src;obtain rfl:kv=.slice a0 l0 c0:=e0;have hF:Jx 3 1 (.slice a0 l0 c0) (c.af.map λ n=>.int .i64 n) W:=ap.af;obtain⟨cb,cc,aw,av,aj,K,a9,L,rfl,a8⟩:=a5.blk (by simp[ZF]);have bl:h.cl=aw:=by have:=Value.slice.inj aj;exact this.2.1
 have am:h.ca=some ⟨cb,0,none⟩:=by have:=Value.slice.inj aj;exact this.1
 have ad:h.cc=av:=by have:=Value.slice.inj aj;exact this.2.2
 have ah:k<h.cl:=by
  rw[Q6 Z1]at K;omega
 have N:U.M.Perm (W++(.obj cb (.cells cc.toList.toArray 46 (0,0))::((X.flatMap (·.2.F)++Y.flatMap (·.2.F))++M₀))):=by
  refine hM.trans ?_;rw[flatMap_append,flatMap_cons];show Perm (.obj cb (.cells cc 46 (0,0))::(X.flatMap (·.2.F)++(W++Y.flatMap (·.2.F))++M₀)) _;refine Perm.trans (Perm.cons _ ?_) perm_middle.symm;rw[<- append_assoc W];refine Perm.append_right _ ?_;rw[<- append_assoc,<- append_assoc];exact Perm.append_right _ perm_append_comm
 have an:∀j,j<4->cc.toList[k*4+j]?=(ZF (c,⟨Z,ab,aa,.slice a0 l0 c0,W⟩))[j]?:=by
  intro j hj;have h1:=P2 Z1 hp hj;have h2:∃x,(ZF (c,(⟨Z,ab,aa,.slice a0 l0 c0,W⟩:ZP)))[j]?=some x:=⟨_,getElem?_eq_getElem (by rw[Z1];exact hj)⟩;obtain⟨x,w⟩:=h2;rw[w]at h1 ⊢;rw[Array.getElem?_toList];exact a8 _ _ h1
 refine Qb.shift (Hf N) ?_;generalize au:(X.flatMap (·.2.F)++Y.flatMap (·.2.F))++M₀=rest at N ⊢;generalize a3:({ U with M:=W++(.obj cb (.cells cc.toList.toArray 46 (0,0))::rest) }:Qa T)=U₀;have az:U₀.M=W++(.obj cb (.cells cc.toList.toArray 46 (0,0))::rest):=by rw[<- a3]
 have bt:U.frz.lg U₀.frz:=by rw[<- a3];exact⟨λ _ _ h=>h,⟨[],rfl⟩,rfl⟩
 have bg:Qb S 40 #[h.v,.agg #[.int .i64 k,.int .i64 n]] (λ _ U'=>(∃v' P,Jx 3 1 v' ((ZI n c.af).map λ n=>.int .i64 n) P/\v'.single=true/\U'.M=P++(.obj cb (.cells (cc.setIfInBounds (k*4+3) v') 46 (0,0))::rest))/\(∀x o,U₀.I x=some o->U'.I x=some o)/\U'.tok=U₀.tok) U₀:=by
  refine Qb.of (args:=[_,_]) Dx Qd S1 ?_
  repeat refine⟨rfl,?_⟩
  conv=>whnf
  intro B U1 al hB;have hB:=Zz4 h hB
  conv=>whnf
  intro b3 U2 Q H;have H:Zo U2 b3 #[.int .i64 k,.int .i64 n]:=H;have hB:=hB.le Q;have ac:U2.M=W++.obj cb (.cells cc.toList.toArray 46 (0,0))::rest:=(al.trans Q).own.trans az;have bp:=Ze _ ac
  have br:U2.sees (((Addr.mk cb 0 none).add (k*4)).add 3) (.slice a0 l0 c0):=by
   have:=bp (k*4+3) (.slice a0 l0 c0) (an 3 O1);rw[Qu]at this;rw[Qu,Qu,Nat.add_assoc];exact this
  refine⟨_,hB.sees3 (o:=1) rfl,_,H.sees3 (o:=0) rfl,⟨cb,0,none⟩,k,⟨am,rfl,ah⟩,_,br,_,H.sees3 (o:=1) rfl,λ v U'=>∃z,v=.slice (some ⟨z,0,none⟩) 1 1/\Zo U' z #[.int .i64 n],λ v U1 U2⟨z,e,hb⟩bb=>⟨z,e,hb.le bb⟩,λ U' bb hC=>?_,λ v hv=>?_⟩
  .conv=>whnf
   intro z ba;exact Zm ba λ U3 G hb=>⟨_,.refl _,⟨z,rfl,hb⟩,G⟩
  obtain⟨_,-,-,z,rfl,-⟩:=hv
  conv=>whnf
  intro U3 G hC;obtain⟨-,bu,bh,a6⟩:=hC;cases bh;have a1:=G.own.trans ac;have bv:c.af.length=l0:=by simpa using bo
  conv=>whnf
  refine Wv (v:=.slice a0 l0 c0) (cs:=c.af.map λ n=>.int .i64 n) (new:=[.int .i64 n]) (M₀:=.obj cb (.cells cc.toList.toArray 46 (0,0))::rest) Hc rfl rfl (by rw[a1];exact hF _) (.inr ⟨_,rfl,a6.rd⟩) rfl (by simp[Value.single]) S3 λ v' M' V _=>?_;have V:Acc 3 1 v' ((c.af++[n]).map λ n=>.int .i64 n) M' (.obj cb (.cells cc.toList.toArray 46 (0,0))::rest):=by simpa using V
  obtain⟨ta,tc,rfl,-⟩:=YS (U:={ U3 with M:=M' }) V;refine⟨DI.any,(RH (U:={ U3 with M:=M' }) _ (c.af++[n]) _ V S3).mono ?_⟩;rintro _ U4⟨ax,bs,l',bd,bq,a4⟩-;have bn:l'=ZI n c.af:=Mj ai bd (by rw[bd.length_eq];exact bq);subst bn;obtain⟨P,bk,ak⟩:=a4.split;have E:∀x o,U2.I x=some o->U4.I x=some o:=λ x o w=>ax x o (G.imm x o w);have bi:=hB.imI E;have a7:=H.imI E;refine⟨_,bi.sees3 (o:=1) rfl,_,a7.sees3 (o:=0) rfl,⟨cb,0,none⟩,k,⟨am,rfl,ah⟩,rfl,?_⟩;rw[show((Addr.mk cb 0 none).add (k*4)).add 3=(Addr.mk cb 0 none).add (k*4+3) by rw[Qu,Qu,Qu,Nat.add_assoc]];refine WS (i:=k*4+3) (v:=.slice ta (c.af++[n]).length tc) P bk (by simp;rw[L,<- ad];omega) rfl λ U5 ay bf a2=>?_;refine⟨⟨_,P,ak,rfl,by rw[a2]⟩,λ x o w=>?_,?_⟩
  .rw[ay];exact E x o ((al.trans Q).imm x o w)
  .rw[bf];exact bs.trans (G.tok.trans (al.trans Q).tok)
 refine bg.mono ?_;rintro v U'⟨⟨v',P,ak,bw,bj⟩,hI,ht⟩;have hz:U.frz.lg U'.frz:=bt.trans ⟨hI,⟨[],rfl⟩,ht⟩;refine⟨⟨⟨X++({ c with af:=ZI n c.af },⟨Z,ab,aa,v',P⟩)::Y,[.obj cb (.cells (cc.setIfInBounds (k*4+3) v') 46 (0,0))],?_,?_,?_,?_⟩,ho.rs.lg hz λ _ _ h=>h,ho.rl,ho.rn,ho.rc⟩,hz.imm,hz.tok⟩
 .show _=(b.cs.set (k:Int).toNat { b.cas (k:Int).toNat with af:=ZI n (b.cas (k:Int).toNat).af });rw[Int.toNat_natCast,ae,<- aq,<- map_set (f:=λ p:Cs×ZP=>p.1) (a:=({ c with af:=ZI n c.af },(⟨Z,ab,aa,v',P⟩:ZP)))];rw[be]
 .intro q hq;rw[mem_append,mem_cons]at hq;rcases hq with hq|rfl|hq
  .exact(ao q (by simp[hq])).lg hz
  .have:=ap.lg hz
   exact⟨this.gs,this.gl,ak,this.nm,by
    show(ZI n c.af).length<=_;rw[(Vr n c.af).length_eq];simp;omega⟩
  .exact(ao q (by simp[hq])).lg hz
 .rw[am,bl,ad];refine .ofBlk ?_ a9 (by simp[L]) λ i x w=>?_
  .rw[Q6 Z1]at K ⊢;simpa using K
  .have hlen1:(X.flatMap ZF).length=k*4:=by rw[Q6 Z1,hX]
   rw[Array.getElem?_setIfInBounds];rw[flatMap_append,flatMap_cons]at w;have ag:=a8 i;rw[flatMap_append,flatMap_cons]at ag;by_cases e:k*4+3=i
   .subst e;rw[if_pos rfl,if_pos (by rw[L];omega)];rw[getElem?_append_right O1,hlen1,Nat.add_sub_cancel_left,getElem?_append_left (by rw[Z1];omega)]at w;exact w
   .rw[if_neg e];refine ag x ?_;by_cases h1:i<k*4
    .rw[getElem?_append_left O1]at w ⊢;exact w
    .rw[getElem?_append_right O1,hlen1]at w ⊢;by_cases h2:i-k*4<4
     .rw[getElem?_append_left (by rw[Z1];exact h2)]at w ⊢;have:i-k*4=0\/i-k*4=1\/i-k*4=2:=O1
      rcases this with e|e|e <;> rw[e]at w ⊢ <;> exact w
     .rw[getElem?_append_right (by rw[Z1];omega)]at w ⊢;exact w
 .rw[bj,<- au,flatMap_append,flatMap_cons];show Perm _ (.obj cb _::(X.flatMap (·.2.F)++(P++Y.flatMap (·.2.F))++M₀));refine Perm.trans perm_middle (Perm.cons _ ?_);rw[<- append_assoc P];refine Perm.append_right _ ?_;rw[<- append_assoc,<- append_assoc];exact Perm.append_right _ perm_append_comm
end
variable{enc:α->List Value}
def JW(U:Qa T)(v:Value)(l:List Int):Prop:=∃a cap,v=.slice a l.length cap/\Z8 U a l.length l/\l.length<=cap
def JW.lg{v:Value}{l:List Int}(h:JW U v l)(f:U.lg U'):JW U' v l:=let ⟨a,c,e,h,r⟩:=h;⟨a,c,e,h.lg f,r⟩
def JW.nil:JW U .nl []:=⟨none,0,rfl,⟨rfl,λ i x h=>by simp at h⟩,Nat.le_refl _⟩
def JW.v{v:Value}{l:List Int}(h:JW U v l):J1 U v l:=let ⟨a,c,e,h,_⟩:=h;⟨a,c,e,h⟩
def GJ(S:Sys P T)(g:FuncId)(first f:Array Value)(enc:α->List Value)(n:Nat)(ps:List (List α))(I:Nat->Qa T->Prop)(E:Qa T->Prop)(U₀:Qa T):Prop:=
 ∀(k:Nat)(p:List α)(a:Option Addr)(cap:Nat)(U:Qa T)(X w:List Q2),ps[k]?=some p->U₀.frz.lg U.frz->Zd U.frz a p.length n p (λ x vs=>vs=enc x)->((∀z,a=some z->z.spot=none)/\p.length<=cap)->U.M=X++w->I k ⟨U.I,w,U.tok⟩ ->
  Qb S g (first.toList++[Value.slice a p.length cap]++f.toList).toArray (λ v U'=>(v=.bool false/\U.frz.lg U'.frz/\∃e,U'.M=X++e/\I (k+1) ⟨U'.I,e,U'.tok⟩)\/(v=.bool true/\∃B e,U'.M=B++e/\E ⟨U'.I,e,U'.tok⟩/\∀x o,U.I x=some o->U'.I x=some o)) U
def Src.lg'(h:Src U a cs)(k:U.lg U'):Src U' a cs:=h.imp id λ⟨f,e,r⟩=>⟨f,e,r.lg k⟩
def HH(z:∀x,(enc x).length=n){l:List α}(h:Src U a (l.flatMap enc))(w:∀e,a=some e->e.spot=none)(f:0<n):Zd U a l.length n l λ x vs=>vs=enc x:=by
 refine⟨rfl,λ i x H=>?_⟩
 have E:(l.flatMap enc)≠[]:=by
  intro I;have:=Q6 z l;rw[I]at this;have Q:=(List.getElem?_eq_some_iff.1 H).1;have P:0<l.length*n:=Nat.mul_pos O1 f;simp at this;omega
 rcases h with⟨_,B⟩|⟨e,rfl,L⟩
 .exact absurd B E
 .refine⟨e,enc x,rfl,w e rfl,rfl,z x,λ j v G=>?_⟩;have K:j<n:=by have:=(List.getElem?_eq_some_iff.1 G).1;rw[z]at this;exact this
  have F:=L (i*n+j) v (by rw[P2 z H K];exact G);obtain⟨bb,M,N⟩:=e;cases w ⟨bb,M,N⟩ rfl;rw[Qu]at F;rw[Qu,Qu,Nat.add_assoc];exact F
variable{ps:List (List (Int×Int))}{I:Nat->Qa T->Prop}{E:Qa T->Prop}{U₀:Qa T}
section
attribute [local irreducible] Qb Zr W5
def VA:Xf prog 26 62 2:=.of K1
def Lt:prog.underlying 26=some (.slice 62):=K1
def Zz(n:Int):List Value:=[.int .i64 n]
def Sd:List (List (Nat×St)):=[[(0,⟨.ld (.tmp 5),some 26,none,none⟩),(0,⟨.mv (.tmp 0),some 27,none,none⟩),(0,⟨.off 0 (.tmp 4),some 28,none,none⟩),(0,⟨.ld (.tmp 28),some 29,none,none⟩),(0,⟨.mv (.tmp 9),some 30,none,none⟩),(0,⟨.idx 2 (.tmp 29) (.tmp 30),some 31,none,none⟩),(0,⟨.ldn 2 (.tmp 31),some 32,none,none⟩),(0,⟨.mv (.tmp 9),some 35,none,none⟩),(0,⟨.add (.tmp 35) (.const (.int .i64 1)),some 36,none,none⟩),(2,⟨.bsl 62 1 #[(.int .i64 0),(.int .i64 0)] [(0,2,(.tmp 32))],some 33,none,none⟩),(2,⟨.rw (.call { callee:=.builtin .append,args:=#[(.tmp 27),(.tmp 33)],argTypes:=#[26,26] }) 26,some 34,none,none⟩)]]
def RY:List St:=[⟨.call (.tmp 26) #[(.tmp 34),(.tmp 36)],some 37,none,none⟩]
def Sc:List (List (Nat×St)):=[[(0,⟨.ld (.tmp 5),some 26,none,none⟩),(0,⟨.mv (.tmp 0),some 27,none,none⟩),(0,⟨.off 0 (.tmp 4),some 28,none,none⟩),(0,⟨.ld (.tmp 28),some 29,none,none⟩),(0,⟨.mv (.tmp 9),some 30,none,none⟩),(0,⟨.idx 1 (.tmp 29) (.tmp 30),some 31,none,none⟩),(0,⟨.ld (.tmp 31),some 32,none,none⟩),(0,⟨.mv (.tmp 9),some 35,none,none⟩),(0,⟨.add (.tmp 35) (.const (.int .i64 1)),some 36,none,none⟩),(2,⟨.bsl 3 1 #[(.int .i64 0)] [(0,1,(.tmp 32))],some 33,none,none⟩),(2,⟨.rw (.call { callee:=.builtin .append,args:=#[(.tmp 27),(.tmp 33)],argTypes:=#[44,44] }) 44,some 34,none,none⟩)]]
def RX:List St:=[⟨.call (.tmp 26) #[(.tmp 34),(.tmp 36)],some 37,none,none⟩]
def encII(p:Int×Int):List Value:=[.int .i64 p.1,.int .i64 p.2]
def Az(a:Option Addr)(cap:Nat)(l:List (Int×Int))(hs:Src U a (l.flatMap encII))(Z:l.length<=1000) :
  Qb S 89 #[.slice a l.length cap] (λ v U'=>(∃a' z,v=.slice a' l.length z/\Zd U'.frz a' l.length 2 l (λ x vs=>vs=encII x)/\(∀B,a'=some B->B.spot=none)/\l.length<=z)/\U.le U') U:=by
 have E:(l.flatMap encII).length=l.length*2:=Q6 (f:=encII) (λ _=>rfl) l
 have W:∀w∈l.flatMap encII,w.single=true:=by
  intro w hw;obtain⟨x,_,X⟩:=mem_flatMap.1 hw;simp[encII]at X
  first|(rcases X with rfl|rfl <;> rfl)|(subst X;rfl)
 have P:Qb S 89 #[.slice a l.length cap] (λ v U'=>Acc 62 2 v (l.flatMap encII) U'.M U.M/\(∀x o,U.I x=some o->U'.I x=some o)/\U'.tok=U.tok) U:=by
  refine Qb.of (args:=[_]) DM Qd S1 ?_
  conv=>whnf
  refine Vv Lt rfl ?_
  conv=>whnf
  apply Qe<;>intro Y
  .have Q:a=none:=by simpa using Y
   subst Q
   have:l=[]:=by
    rcases hs with⟨_,G⟩|⟨B,G,_⟩
    .cases l with
     |nil=>rfl
     |cons x r=>simp[encII]at G
    .cases G
   subst this
   repeat refine⟨rfl,?_⟩
   conv=>whnf
   exact⟨.nil,λ _ _ h=>h,rfl⟩
  .obtain⟨B,rfl⟩:∃B,a=some B:=by cases a with|none=>cases Y|some B=>exact⟨B,rfl⟩
   conv=>whnf
   intro T ab;refine⟨_,.refl _,?_⟩
   have F:Src (U.put T (.cells #[] 62)) (some B) (l.flatMap encII):=by
    rcases hs with⟨G,_⟩|⟨aa,e,hr⟩
    .cases G
    .cases e;exact .inr ⟨_,rfl,hr.lg (Z6 T _)⟩
   conv=>whnf
   refine Wv (v:=.slice (some ⟨T,0,none⟩) 0 0) (cs:=[]) (new:=l.flatMap encII) (M₀:=U.M) VA rfl rfl .empty F E W (by rw[E,length_nil];omega) λ v' M' H _=>?_;obtain⟨ta,tl,tc,rfl,-,-⟩:=Acc.src (U:={ U with M:=M' }) H
   repeat refine⟨rfl,?_⟩
   conv=>whnf
   exact⟨by simpa using H,λ _ _ h=>h,rfl⟩
 refine P.sep λ v U' F⟨Q,hI,ht⟩=>?_;obtain⟨U'',k1,k2,a',N,z,rfl,V,L,K,_⟩:=Q.freeze F hI ht;have:l.length=N:=by have e:=E.symm.trans V;omega
 subst this;exact⟨U'',k1,⟨a',z,rfl,HH (enc:=encII) (n:=2) (λ _=>rfl) L K D1,K,Q.room⟩,k2⟩
structure GT(U:Qa T)(l:List (Int×Int))(many:Nat)(g:FuncId)(first capt:Array Value)(bm bt bl bn:Nat):Prop where
 m:Zo U bm #[.int .i64 many]
 t:Zo U bt #[.func (.func g) first capt]
 l:∃a cap,Zo U bl #[.slice a l.length cap]/\Zd U.frz a l.length 2 l (λ x vs=>vs=encII x)
 n:Zo U bn #[.func (.func 88) #[] #[.pb bm,.pb bt,.pb bl,.pb bn]]
def GT.lg{U':Qa T}{l:List (Int×Int)}{f:Nat}{g:FuncId}{first e:Array Value}{bm B w z:Nat}(h:GT U l f g first e bm B w z)(k:U.frz.lg U'.frz):GT U' l f g first e bm B w z:=
 ⟨h.m.imI k.imm,h.t.imI k.imm,let ⟨a,c,h1,h2⟩:=h.l;⟨a,c,h1.imI k.imm,h2.lg k λ _ _ h=>h⟩,h.n.imI k.imm⟩
def Ay(a:Option Addr)(cap:Nat)(l:List Int)(hs:Src U a (l.flatMap Zz))(Z:l.length<=1000) :
  Qb S 112 #[.slice a l.length cap] (λ v U'=>(∃a' z,v=.slice a' l.length z/\Zd U'.frz a' l.length 1 l (λ x vs=>vs=Zz x)/\(∀B,a'=some B->B.spot=none)/\l.length<=z)/\U.le U') U:=by
 have E:(l.flatMap Zz).length=l.length*1:=Q6 (f:=Zz) (λ _=>rfl) l
 have W:∀w∈l.flatMap Zz,w.single=true:=by
  intro w hw;obtain⟨x,_,X⟩:=mem_flatMap.1 hw;simp[Zz]at X
  first|(rcases X with rfl|rfl <;> rfl)|(subst X;rfl)
 have P:Qb S 112 #[.slice a l.length cap] (λ v U'=>Acc 3 1 v (l.flatMap Zz) U'.M U.M/\(∀x o,U.I x=some o->U'.I x=some o)/\U'.tok=U.tok) U:=by
  refine Qb.of (args:=[_]) P9 Qd S1 ?_
  conv=>whnf
  refine Vv Pr rfl ?_
  conv=>whnf
  apply Qe<;>intro Y
  .have Q:a=none:=by simpa using Y
   subst Q
   have:l=[]:=by
    rcases hs with⟨_,G⟩|⟨B,G,_⟩
    .cases l with
     |nil=>rfl
     |cons x r=>simp[Zz]at G
    .cases G
   subst this
   repeat refine⟨rfl,?_⟩
   conv=>whnf
   exact⟨.nil,λ _ _ h=>h,rfl⟩
  .obtain⟨B,rfl⟩:∃B,a=some B:=by cases a with|none=>cases Y|some B=>exact⟨B,rfl⟩
   conv=>whnf
   intro T ab;refine⟨_,.refl _,?_⟩
   have F:Src (U.put T (.cells #[] 3)) (some B) (l.flatMap Zz):=by
    rcases hs with⟨G,_⟩|⟨aa,e,hr⟩
    .cases G
    .cases e;exact .inr ⟨_,rfl,hr.lg (Z6 T _)⟩
   conv=>whnf
   refine Wv (v:=.slice (some ⟨T,0,none⟩) 0 0) (cs:=[]) (new:=l.flatMap Zz) (M₀:=U.M) Hc rfl rfl .empty F E W (by rw[E,length_nil];omega) λ v' M' H _=>?_;obtain⟨ta,tl,tc,rfl,-,-⟩:=Acc.src (U:={ U with M:=M' }) H
   repeat refine⟨rfl,?_⟩
   conv=>whnf
   exact⟨by simpa using H,λ _ _ h=>h,rfl⟩
 refine P.sep λ v U' F⟨Q,hI,ht⟩=>?_;obtain⟨U'',k1,k2,a',N,z,rfl,V,L,K,_⟩:=Q.freeze F hI ht;have:l.length=N:=by have e:=E.symm.trans V;omega
 subst this;exact⟨U'',k1,⟨a',z,rfl,HH (enc:=Zz) (n:=1) (λ _=>rfl) L K D1,K,Q.room⟩,k2⟩
structure GS(U:Qa T)(l:List Int)(many:Nat)(g:FuncId)(first capt:Array Value)(bm bt bl bn:Nat):Prop where
 m:Zo U bm #[.int .i64 many]
 t:Zo U bt #[.func (.func g) first capt]
 l:∃a cap,Zo U bl #[.slice a l.length cap]/\Zd U.frz a l.length 1 l (λ x vs=>vs=Zz x)
 n:Zo U bn #[.func (.func 120) #[] #[.pb bm,.pb bt,.pb bl,.pb bn]]
def GS.lg{U':Qa T}{l:List Int}{f:Nat}{g:FuncId}{first e:Array Value}{bm B w z:Nat}(h:GS U l f g first e bm B w z)(k:U.frz.lg U'.frz):GS U' l f g first e bm B w z:=
 ⟨h.m.imI k.imm,h.t.imI k.imm,let ⟨a,c,h1,h2⟩:=h.l;⟨a,c,h1.imI k.imm,h2.lg k λ _ _ h=>h⟩,h.n.imI k.imm⟩
def Rh(l:List (Int×Int))(hl:l.length<=1000)(aj:Nat)(hm:aj<=1000)(g:FuncId)(first am:Array Value)(hg:(prog.funcs[g]?.any λ fd=>fd.body.isSome&&fd.name != "runtime.NumGoroutine")=true){bt bl bn:Nat}
  (a7:∀k L Y,L.le Y->I k L->I k Y) (bj:GJ S g first am encII 2 ps I E U₀) :
  ∀(m:Nat)(x:List (Int×Int))(i j:Nat)(xv:Value)(U:Qa T)(Z Mc:List Q2),x.length+m=aj->i<=l.length->U₀.frz.lg U.frz->GT U l aj g first am r bt bl bn->Acc 62 2 xv (x.flatMap encII) U.M (Z++Mc)->(∀(i':Nat)q,(TM.parts (l.drop i) m)[i']?=some q->ps[j+i']?=some (x++q))->I j ⟨U.I,Mc,U.tok⟩ ->
   Qb S 88 #[xv,.int .i64 i,.pb r,.pb bt,.pb bl,.pb bn]
    (λ v U'=>(v=.bool false/\U.frz.lg U'.frz/\∃w,Acc 62 2 xv (x.flatMap encII) U'.M (Z++w)/\I (j+(TM.parts (l.drop i) m).length) ⟨U'.I,w,U'.tok⟩)\/(v=.bool true/\∃X' w,U'.M=X'++w/\E ⟨U'.I,w,U'.tok⟩/\∀x o,U.I x=some o->U'.I x=some o)) U:=by
 intro m
 induction m with
 |zero=>
  intro x i j xv U Z Mc bk hi h0 ab F V hI;obtain⟨sa,sl,sc,rfl,aq,a6⟩:=F.src;have au:x.length=sl:=by have e:=(Q6 (f:=encII) (n:=2) (λ _=>rfl) x).symm.trans aq;omega
  subst au
  obtain⟨A,hA⟩:∃A,U.M=A++(Z++Mc):=by
   rcases F with⟨_,_,hM⟩|⟨b,c,len,cap,_,_,_,_,hM,_⟩
   .exact⟨[],hM⟩
   .exact⟨[_],hM⟩
  refine Qb.of (args:=[_,_,_,_,_,_]) VN Qd S1 ?_;refine⟨_,ab.m.sees3 (o:=0) rfl,?_⟩
  repeat refine⟨rfl,?_⟩
  conv=>whnf
  apply Qe<;>intro hc
  .refine⟨_,ab.t.sees3 (o:=0) rfl,λ v U'=>∃a' al,v=.slice a' x.length al/\Zd U'.frz a' x.length 2 x (λ x vs=>vs=encII x)/\(∀ad,a'=some ad->ad.spot=none)/\x.length<=al,λ v L Y⟨a',c',e,h,s⟩z=>⟨a',c',e,h.lg z.lg.frz2 λ _ _ h=>h,s⟩,λ U' z hC=>?_,λ v hv=>?_⟩
   .refine⟨DM.any,(Az sa sc x (Src.lg' a6 z.lg) O1).mono ?_⟩;rintro v U''⟨hv,a3⟩-;exact⟨U'',.refl _,hv,a3⟩
   obtain⟨_,-,-,a',c',rfl,-⟩:=hv
   conv=>whnf
   intro L aa hC;obtain⟨-,a2,c2,e2,hr,hs⟩:=hC;cases e2;have a4:ps[j]?=some x:=by have:=V 0 [] (by rw[Pb];rfl);simpa using this
   have ax:L.M=(A++Z)++Mc:=by rw[aa.own,hA,append_assoc]
   refine⟨hg,(bj j x a' c' L (A++Z) Mc a4 (h0.trans aa.lg.frz2) hr hs ax (a7 j ⟨U.I,Mc,U.tok⟩ ⟨L.I,Mc,L.tok⟩ ⟨aa.imm,rfl,aa.tok⟩ hI)).mono ?_⟩;rintro v Y (⟨rfl,ah,w,X,aw⟩|⟨rfl,X',w,X,hE,ag⟩) -
   .repeat refine⟨rfl,?_⟩
    conv=>whnf
    refine .inl ⟨rfl,aa.lg.frz2.trans ah,w,?_,by rw[Pb];exact aw⟩;rcases F with⟨e1,g2,hM⟩|⟨b,c,len,cap,e1,g1,g2,g3,hM,g5⟩
    .refine .inl ⟨e1,g2,?_⟩
     have:A=[]:=by
      rw[hM]at hA;exact self_eq_append_left.1 hA
     rw[X,this];rfl
    .refine .inr ⟨b,c,len,cap,e1,g1,g2,g3,?_,g5⟩
     have:A=[.obj b (.cells c 62 (0,0))]:=by
      rw[hM]at hA;exact(append_cancel_right (show[Q2.obj b (.cells c 62 (0,0))]++(Z++Mc)=A++(Z++Mc) from hA)).symm
     rw[X,this,append_assoc];rfl
   .repeat refine⟨rfl,?_⟩
    conv=>whnf
    exact .inr ⟨rfl,X',w,X,hE,λ x o hx=>ag x o (aa.imm x o hx)⟩
  .simp at hc;omega
 |succ m ih=>
  intro x i j xv U Z Mc bk hi h0 ab F V hI;obtain⟨sa,sl,sc,rfl,aq,-⟩:=F.src;have au:x.length=sl:=by have e:=(Q6 (f:=encII) (n:=2) (λ _=>rfl) x).symm.trans aq;omega
  subst au;have be:(x.flatMap encII).length=x.length*2:=Q6 (f:=encII) (λ _=>rfl) x;refine Qb.of (args:=[_,_,_,_,_,_]) VN Qd S1 ?_;refine⟨_,ab.m.sees3 (o:=0) rfl,?_⟩
  repeat refine⟨rfl,?_⟩
  conv=>whnf
  apply Qe<;>intro hc
  .simp at hc;omega
  clear hc
  refine⟨Nat×Nat,λ y=>[(0,.slice sa x.length sc),(2,.pb r),(3,.pb bt),(4,.pb bl),(5,.pb bn),(9,.int .i64 y.1)],
   λ y U'=>U.frz.lg U'.frz/\y.1<=l.length/\(∃w,Acc 62 2 (.slice sa x.length sc) (x.flatMap encII) U'.M (Z++w)/\I y.2 ⟨U'.I,w,U'.tok⟩)/\(∀(i':Nat)q,(TM.parts (l.drop y.1) (m+1))[i']?=some q->ps[y.2+i']?=some (x++q))/\y.2+(TM.parts (l.drop y.1) (m+1)).length=j+(TM.parts (l.drop i) (m+1)).length,
   λ y=>l.length-y.1,(i,j),T1,⟨⟨λ _ _ h=>h,⟨[],rfl⟩,rfl⟩,hi,⟨Mc,F,hI⟩,V,rfl⟩,?_⟩
  rintro⟨i,jj⟩f L⟨ah,hi,⟨w,F,hI⟩,V,P⟩;simp only at hi V P hI;have an:=ab.lg ah;obtain⟨la,lc,ay,ap⟩:=an.l;have a1:Je ((i:Int)+1):=I1
  refine⟨_,ay.sees3 (o:=0) rfl,?_⟩
  repeat refine⟨rfl,?_⟩
  conv=>whnf
  apply Qe<;>intro hc
  .have hlt:i<l.length:=by simpa using hc
   obtain⟨ad,e,vs,hx,rfl,bo,rfl,-,bi⟩:=Zd.at ap hlt;have bh:=Ek (m:=m) hx;rw[bh]at V P;rw[length_append,length_map]at P;have bg:Zo L.frz bn _:=an.n.imI λ _ _ h=>h;have bf:Zo L.frz bl _:=ay.imI λ _ _ h=>h
   conv=>whnf
   intro ac Q
   refine YM (mu:=[1006]) (ops:=PN Tryz.f88 6) (id:=6) Q [7,8] [[0,1,2,3,4,5,6,9,10,7,8]] [11] Sd RY Qd K1 K1 K1 K1 K1
    (λ f' av U'=>av=[]/\∃(ak:Value)(Zn:List Q2),XH f' [(0,.slice sa x.length sc),(2,.pb r),(3,.pb bt),(4,.pb bl),(5,.pb bn),(9,.int .i64 i),(26,.func (.func 88) #[] #[.pb r,.pb bt,.pb bl,.pb bn]),(34,ak),(36,.int .i64 ((i:Int)+1))]/\Acc 62 2 ak (x.flatMap encII++encII e) U'.M (Zn++(Z++w))/\(∀ae B,Acc 62 2 ak (x.flatMap encII++encII e) ae (Zn++B)->∃M3:List Q2,M3.Sublist ae/\Acc 62 2 (.slice sa x.length sc) (x.flatMap encII) M3 B)/\L.frz.lg U') ?_ ?_
   .intro l' hl';simp only[Sd,mem_cons,not_mem_nil,or_false]at hl';subst hl';refine⟨_,bg.sees3 (o:=0) rfl,_,bf.sees3 (o:=0) rfl,ad,i,⟨rfl,rfl,hlt⟩,_,⟨rfl,bi⟩,a1,λ v U'=>∃N,v=.slice (some ⟨N,0,none⟩) 1 1/\Zo U' N (encII e).toArray/\L.le U',λ v L Y⟨N,e1,hb,hl⟩z=>⟨N,e1,hb.le z,hl.trans z⟩,λ v U'⟨N,e1,hb,hl⟩=>⟨hl.imm,Zz3,hl.tok⟩,λ U' hC=>?_,λ v hv=>?_⟩
    .have z:=hC
     conv=>whnf
     intro N az;exact Zm az λ U3 bc hb=>⟨U3,.refl _,N,rfl,hb,Qa.le.trans z bc⟩
    obtain⟨_,N,rfl,-⟩:=hv;refine⟨λ v U'=>∃Zn,(∃a' l' c',v=.slice a' l' c')/\Acc 62 2 v (x.flatMap encII++encII e) U'.M (Zn++(Z++w))/\(∀ae B,Acc 62 2 v (x.flatMap encII++encII e) ae (Zn++B)->∃M3:List Q2,M3.Sublist ae/\Acc 62 2 (.slice sa x.length sc) (x.flatMap encII) M3 B)/\L.frz.lg U',λ v L Y⟨Zn,hs,h1,h2,h3⟩z=>⟨Zn,hs,by rw[z.own];exact h1,h2,h3.trans z.lg⟩,λ v U'⟨Zn,hs,h1,h2,h3⟩=>h3,λ U' hC=>?_,λ v hv=>?_⟩
    .obtain⟨b33',e33,hb33,z⟩:=hC;cases e33
     conv=>whnf
     refine E5 (v:=.slice sa x.length sc) (cs:=x.flatMap encII) (new:=encII e) (M₀:=Z++w) VA rfl rfl (by rw[z.own];exact F) (.inr ⟨_,rfl,hb33.rd⟩) rfl (by simp[encII,Value.single]) (by rw[be];simp[encII];omega) (by simp[encII]) λ v' M' Zn h1 h2=>?_;refine⟨_,.refl _,Zn,?_,h1,h2,⟨z.imm,Zz3,z.tok⟩⟩;obtain⟨ta,tl,tc,e1,-⟩:=Acc.src (U:={ U' with M:=M' }) h1;exact⟨ta,tl,tc,e1⟩
    obtain⟨_,Zn,⟨va,vl,vc,rfl⟩,-⟩:=hv
    conv=>whnf
    rintro U'⟨ba,-,h1,h2,h3⟩;exact⟨rfl,_,ba,T1,h1,h2,h3⟩
   rintro f' av Y⟨rfl,ak,Zn,a0,af,a5,ai⟩;rw[<- a0.ovr];clear a0;obtain⟨va,vl,vc,rfl,-⟩:=af.src;have K:U.frz.lg Y.frz:=ah.trans ai.frz2;have a9:(x++[e]).flatMap encII=x.flatMap encII++encII e:=by rw[flatMap_append];simp
   have W:=ih (x++[e]) (i+1) jj (.slice va vl vc) Y (Zn++Z) w (by rw[length_append];simp;omega) O1 (h0.trans K) (ab.lg K) (by rw[a9,append_assoc];exact af) (λ t q hq=>by
    have:=V t (e::q) (by
     rw[getElem?_append_left (by rw[length_map];exact(List.getElem?_eq_some_iff.1 hq).1),getElem?_map,hq];rfl)
    rw[this];simp) (a7 jj ⟨L.I,w,L.tok⟩ ⟨Y.I,w,Y.tok⟩ ⟨ai.imm,rfl,ai.tok⟩ hI)
   have W:=W.post (R':=λ v U'=>(v=.bool false/\Y.frz.lg U'.frz/\∃G,Acc 62 2 (.slice sa x.length sc) (x.flatMap encII) U'.M (Z++G)/\I (jj+(TM.parts (l.drop (i+1)) m).length) ⟨U'.I,G,U'.tok⟩)\/(v=.bool true/\∃X' w,U'.M=X'++w/\E ⟨U'.I,w,U'.tok⟩/\∀x o,Y.I x=some o->U'.I x=some o)) λ v U' hv=>by
    rcases hv with⟨rfl,hl,G,ha,ao⟩|h
    .rw[a9,append_assoc]at ha;obtain⟨M3,a8,bd⟩:=a5 _ _ ha;exact⟨_,Z2 a8,.inl ⟨rfl,hl,G,bd,ao⟩⟩
    .exact⟨U',.refl _,.inr h⟩
   refine⟨VN.any,W.mono ?_⟩;rintro v U3 (⟨rfl,hl,G,ha,ao⟩|⟨rfl,X',G,bb,hE,ag⟩) -
   .conv=>whnf
    intro a' H;refine⟨by rw[H.size,Q.size],_,H.get,?_⟩;rw[H.ds];clear H Q;refine⟨a1,rfl,(i+1,jj+(TM.parts (l.drop (i+1)) m).length),T1,⟨K.trans hl,by show i+1<=l.length;omega,⟨G,ha,ao⟩,λ t q hq=>?_,by show jj+(TM.parts (l.drop (i+1)) m).length+(TM.parts (l.drop (i+1)) (m+1)).length=_;omega⟩,L1⟩;show ps[jj+(TM.parts (l.drop (i+1)) m).length+t]?=_;rw[Nat.add_assoc];refine V _ q ?_;rw[getElem?_append_right (by rw[length_map];omega),length_map,Nat.add_sub_cancel_left];exact hq
   .conv=>whnf
    intro a' H;refine⟨by rw[H.size,Q.size],_,H.get,?_⟩;rw[H.ds];clear H Q
    repeat refine⟨rfl,?_⟩
    conv=>whnf
    exact .inr ⟨rfl,X',G,bb,hE,λ x o hx=>ag x o (K.imm x o hx)⟩
  .have hge:l.length<=i:=by simpa using hc
   rw[Da hge,length_nil,Nat.add_zero]at P
   repeat refine⟨rfl,?_⟩
   conv=>whnf
   exact .inl ⟨rfl,ah,w,F,by rw[<- P];exact hI⟩
def Rg(l:List Int)(hl:l.length<=1000)(aj:Nat)(hm:aj<=1000)(g:FuncId)(first am:Array Value)(hg:(prog.funcs[g]?.any λ fd=>fd.body.isSome&&fd.name != "runtime.NumGoroutine")=true){bt bl bn:Nat}{ps:List (List Int)}
  (a7:∀k L Y,L.le Y->I k L->I k Y) (bj:GJ S g first am Zz 1 ps I E U₀) :
  ∀(m:Nat)(x:List Int)(i j:Nat)(xv:Value)(U:Qa T)(Z Mc:List Q2),x.length+m=aj->i<=l.length->U₀.frz.lg U.frz->GS U l aj g first am r bt bl bn->Acc 3 1 xv (x.flatMap Zz) U.M (Z++Mc)->(∀(i':Nat)q,(TM.parts (l.drop i) m)[i']?=some q->ps[j+i']?=some (x++q))->I j ⟨U.I,Mc,U.tok⟩ ->
   Qb S 120 #[xv,.int .i64 i,.pb r,.pb bt,.pb bl,.pb bn]
    (λ v U'=>(v=.bool false/\U.frz.lg U'.frz/\∃w,Acc 3 1 xv (x.flatMap Zz) U'.M (Z++w)/\I (j+(TM.parts (l.drop i) m).length) ⟨U'.I,w,U'.tok⟩)\/(v=.bool true/\∃X' w,U'.M=X'++w/\E ⟨U'.I,w,U'.tok⟩/\∀x o,U.I x=some o->U'.I x=some o)) U:=by
 intro m
 induction m with
 |zero=>
  intro x i j xv U Z Mc bk hi h0 ab F V hI;obtain⟨sa,sl,sc,rfl,aq,a6⟩:=F.src;have au:x.length=sl:=by have e:=(Q6 (f:=Zz) (n:=1) (λ _=>rfl) x).symm.trans aq;omega
  subst au
  obtain⟨A,hA⟩:∃A,U.M=A++(Z++Mc):=by
   rcases F with⟨_,_,hM⟩|⟨b,c,len,cap,_,_,_,_,hM,_⟩
   .exact⟨[],hM⟩
   .exact⟨[_],hM⟩
  refine Qb.of (args:=[_,_,_,_,_,_]) Vx Qd S1 ?_;refine⟨_,ab.m.sees3 (o:=0) rfl,?_⟩
  repeat refine⟨rfl,?_⟩
  conv=>whnf
  apply Qe<;>intro hc
  .refine⟨_,ab.t.sees3 (o:=0) rfl,λ v U'=>∃a' al,v=.slice a' x.length al/\Zd U'.frz a' x.length 1 x (λ x vs=>vs=Zz x)/\(∀ad,a'=some ad->ad.spot=none)/\x.length<=al,λ v L Y⟨a',c',e,h,s⟩z=>⟨a',c',e,h.lg z.lg.frz2 λ _ _ h=>h,s⟩,λ U' z hC=>?_,λ v hv=>?_⟩
   .refine⟨P9.any,(Ay sa sc x (Src.lg' a6 z.lg) O1).mono ?_⟩;rintro v U''⟨hv,a3⟩-;exact⟨U'',.refl _,hv,a3⟩
   obtain⟨_,-,-,a',c',rfl,-⟩:=hv
   conv=>whnf
   intro L aa hC;obtain⟨-,a2,c2,e2,hr,hs⟩:=hC;cases e2;have a4:ps[j]?=some x:=by have:=V 0 [] (by rw[Pb];rfl);simpa using this
   have ax:L.M=(A++Z)++Mc:=by rw[aa.own,hA,append_assoc]
   refine⟨hg,(bj j x a' c' L (A++Z) Mc a4 (h0.trans aa.lg.frz2) hr hs ax (a7 j ⟨U.I,Mc,U.tok⟩ ⟨L.I,Mc,L.tok⟩ ⟨aa.imm,rfl,aa.tok⟩ hI)).mono ?_⟩;rintro v Y (⟨rfl,ah,w,X,aw⟩|⟨rfl,X',w,X,hE,ag⟩) -
   .repeat refine⟨rfl,?_⟩
    conv=>whnf
    refine .inl ⟨rfl,aa.lg.frz2.trans ah,w,?_,by rw[Pb];exact aw⟩;rcases F with⟨e1,g2,hM⟩|⟨b,c,len,cap,e1,g1,g2,g3,hM,g5⟩
    .refine .inl ⟨e1,g2,?_⟩
     have:A=[]:=by
      rw[hM]at hA;exact self_eq_append_left.1 hA
     rw[X,this];rfl
    .refine .inr ⟨b,c,len,cap,e1,g1,g2,g3,?_,g5⟩
     have:A=[.obj b (.cells c 3 (0,0))]:=by
      rw[hM]at hA;exact(append_cancel_right (show[Q2.obj b (.cells c 3 (0,0))]++(Z++Mc)=A++(Z++Mc) from hA)).symm
     rw[X,this,append_assoc];rfl
   .repeat refine⟨rfl,?_⟩
    conv=>whnf
    exact .inr ⟨rfl,X',w,X,hE,λ x o hx=>ag x o (aa.imm x o hx)⟩
  .simp at hc;omega
 |succ m ih=>
  intro x i j xv U Z Mc bk hi h0 ab F V hI;obtain⟨sa,sl,sc,rfl,aq,-⟩:=F.src;have au:x.length=sl:=by have e:=(Q6 (f:=Zz) (n:=1) (λ _=>rfl) x).symm.trans aq;omega
  subst au;have be:(x.flatMap Zz).length=x.length*1:=Q6 (f:=Zz) (λ _=>rfl) x;refine Qb.of (args:=[_,_,_,_,_,_]) Vx Qd S1 ?_;refine⟨_,ab.m.sees3 (o:=0) rfl,?_⟩
  repeat refine⟨rfl,?_⟩
  conv=>whnf
  apply Qe<;>intro hc
  .simp at hc;omega
  clear hc
  refine⟨Nat×Nat,λ y=>[(0,.slice sa x.length sc),(2,.pb r),(3,.pb bt),(4,.pb bl),(5,.pb bn),(9,.int .i64 y.1)],
   λ y U'=>U.frz.lg U'.frz/\y.1<=l.length/\(∃w,Acc 3 1 (.slice sa x.length sc) (x.flatMap Zz) U'.M (Z++w)/\I y.2 ⟨U'.I,w,U'.tok⟩)/\(∀(i':Nat)q,(TM.parts (l.drop y.1) (m+1))[i']?=some q->ps[y.2+i']?=some (x++q))/\y.2+(TM.parts (l.drop y.1) (m+1)).length=j+(TM.parts (l.drop i) (m+1)).length,
   λ y=>l.length-y.1,(i,j),T1,⟨⟨λ _ _ h=>h,⟨[],rfl⟩,rfl⟩,hi,⟨Mc,F,hI⟩,V,rfl⟩,?_⟩
  rintro⟨i,jj⟩f L⟨ah,hi,⟨w,F,hI⟩,V,P⟩;simp only at hi V P hI;have an:=ab.lg ah;obtain⟨la,lc,ay,ap⟩:=an.l;have a1:Je ((i:Int)+1):=I1
  refine⟨_,ay.sees3 (o:=0) rfl,?_⟩
  repeat refine⟨rfl,?_⟩
  conv=>whnf
  apply Qe<;>intro hc
  .have hlt:i<l.length:=by simpa using hc
   obtain⟨ad,e,vs,hx,rfl,bo,rfl,-,bi⟩:=Zd.at ap hlt;have bh:=Ek (m:=m) hx;rw[bh]at V P;rw[length_append,length_map]at P;have bg:Zo L.frz bn _:=an.n.imI λ _ _ h=>h;have bf:Zo L.frz bl _:=ay.imI λ _ _ h=>h
   conv=>whnf
   intro ac Q
   refine YM (mu:=[1006]) (ops:=PN Tryz.f120 6) (id:=6) Q [7,8] [[0,1,2,3,4,5,6,9,10,7,8]] [11] Sc RX Qd K1 K1 K1 K1 K1
    (λ f' av U'=>av=[]/\∃(ak:Value)(Zn:List Q2),XH f' [(0,.slice sa x.length sc),(2,.pb r),(3,.pb bt),(4,.pb bl),(5,.pb bn),(9,.int .i64 i),(26,.func (.func 120) #[] #[.pb r,.pb bt,.pb bl,.pb bn]),(34,ak),(36,.int .i64 ((i:Int)+1))]/\Acc 3 1 ak (x.flatMap Zz++Zz e) U'.M (Zn++(Z++w))/\(∀ae B,Acc 3 1 ak (x.flatMap Zz++Zz e) ae (Zn++B)->∃M3:List Q2,M3.Sublist ae/\Acc 3 1 (.slice sa x.length sc) (x.flatMap Zz) M3 B)/\L.frz.lg U') ?_ ?_
   .intro l' hl';simp only[Sc,mem_cons,not_mem_nil,or_false]at hl';subst hl';refine⟨_,bg.sees3 (o:=0) rfl,_,bf.sees3 (o:=0) rfl,ad,i,⟨rfl,rfl,hlt⟩,_,bi 0 _ rfl,a1,λ v U'=>∃N,v=.slice (some ⟨N,0,none⟩) 1 1/\Zo U' N (Zz e).toArray/\L.le U',λ v L Y⟨N,e1,hb,hl⟩z=>⟨N,e1,hb.le z,hl.trans z⟩,λ v U'⟨N,e1,hb,hl⟩=>⟨hl.imm,Zz3,hl.tok⟩,λ U' hC=>?_,λ v hv=>?_⟩
    .have z:=hC
     conv=>whnf
     intro N az;exact Zm az λ U3 bc hb=>⟨U3,.refl _,N,rfl,hb,Qa.le.trans z bc⟩
    obtain⟨_,N,rfl,-⟩:=hv;refine⟨λ v U'=>∃Zn,(∃a' l' c',v=.slice a' l' c')/\Acc 3 1 v (x.flatMap Zz++Zz e) U'.M (Zn++(Z++w))/\(∀ae B,Acc 3 1 v (x.flatMap Zz++Zz e) ae (Zn++B)->∃M3:List Q2,M3.Sublist ae/\Acc 3 1 (.slice sa x.length sc) (x.flatMap Zz) M3 B)/\L.frz.lg U',λ v L Y⟨Zn,hs,h1,h2,h3⟩z=>⟨Zn,hs,by rw[z.own];exact h1,h2,h3.trans z.lg⟩,λ v U'⟨Zn,hs,h1,h2,h3⟩=>h3,λ U' hC=>?_,λ v hv=>?_⟩
    .obtain⟨b33',e33,hb33,z⟩:=hC;cases e33
     conv=>whnf
     refine E5 (v:=.slice sa x.length sc) (cs:=x.flatMap Zz) (new:=Zz e) (M₀:=Z++w) Hc rfl rfl (by rw[z.own];exact F) (.inr ⟨_,rfl,hb33.rd⟩) rfl (by simp[Zz,Value.single]) (by rw[be];simp[Zz];omega) (by simp[Zz]) λ v' M' Zn h1 h2=>?_;refine⟨_,.refl _,Zn,?_,h1,h2,⟨z.imm,Zz3,z.tok⟩⟩;obtain⟨ta,tl,tc,e1,-⟩:=Acc.src (U:={ U' with M:=M' }) h1;exact⟨ta,tl,tc,e1⟩
    obtain⟨_,Zn,⟨va,vl,vc,rfl⟩,-⟩:=hv
    conv=>whnf
    rintro U'⟨ba,-,h1,h2,h3⟩;exact⟨rfl,_,ba,T1,h1,h2,h3⟩
   rintro f' av Y⟨rfl,ak,Zn,a0,af,a5,ai⟩;rw[<- a0.ovr];clear a0;obtain⟨va,vl,vc,rfl,-⟩:=af.src;have K:U.frz.lg Y.frz:=ah.trans ai.frz2;have a9:(x++[e]).flatMap Zz=x.flatMap Zz++Zz e:=by rw[flatMap_append];simp
   have W:=ih (x++[e]) (i+1) jj (.slice va vl vc) Y (Zn++Z) w (by rw[length_append];simp;omega) O1 (h0.trans K) (ab.lg K) (by rw[a9,append_assoc];exact af) (λ t q hq=>by
    have:=V t (e::q) (by
     rw[getElem?_append_left (by rw[length_map];exact(List.getElem?_eq_some_iff.1 hq).1),getElem?_map,hq];rfl)
    rw[this];simp) (a7 jj ⟨L.I,w,L.tok⟩ ⟨Y.I,w,Y.tok⟩ ⟨ai.imm,rfl,ai.tok⟩ hI)
   have W:=W.post (R':=λ v U'=>(v=.bool false/\Y.frz.lg U'.frz/\∃G,Acc 3 1 (.slice sa x.length sc) (x.flatMap Zz) U'.M (Z++G)/\I (jj+(TM.parts (l.drop (i+1)) m).length) ⟨U'.I,G,U'.tok⟩)\/(v=.bool true/\∃X' w,U'.M=X'++w/\E ⟨U'.I,w,U'.tok⟩/\∀x o,Y.I x=some o->U'.I x=some o)) λ v U' hv=>by
    rcases hv with⟨rfl,hl,G,ha,ao⟩|h
    .rw[a9,append_assoc]at ha;obtain⟨M3,a8,bd⟩:=a5 _ _ ha;exact⟨_,Z2 a8,.inl ⟨rfl,hl,G,bd,ao⟩⟩
    .exact⟨U',.refl _,.inr h⟩
   refine⟨Vx.any,W.mono ?_⟩;rintro v U3 (⟨rfl,hl,G,ha,ao⟩|⟨rfl,X',G,bb,hE,ag⟩) -
   .conv=>whnf
    intro a' H;refine⟨by rw[H.size,Q.size],_,H.get,?_⟩;rw[H.ds];clear H Q;refine⟨a1,rfl,(i+1,jj+(TM.parts (l.drop (i+1)) m).length),T1,⟨K.trans hl,by show i+1<=l.length;omega,⟨G,ha,ao⟩,λ t q hq=>?_,by show jj+(TM.parts (l.drop (i+1)) m).length+(TM.parts (l.drop (i+1)) (m+1)).length=_;omega⟩,L1⟩;show ps[jj+(TM.parts (l.drop (i+1)) m).length+t]?=_;rw[Nat.add_assoc];refine V _ q ?_;rw[getElem?_append_right (by rw[length_map];omega),length_map,Nat.add_sub_cancel_left];exact hq
   .conv=>whnf
    intro a' H;refine⟨by rw[H.size,Q.size],_,H.get,?_⟩;rw[H.ds];clear H Q
    repeat refine⟨rfl,?_⟩
    conv=>whnf
    exact .inr ⟨rfl,X',G,bb,hE,λ x o hx=>ag x o (K.imm x o hx)⟩
  .have hge:l.length<=i:=by simpa using hc
   rw[Da hge,length_nil,Nat.add_zero]at P
   repeat refine⟨rfl,?_⟩
   conv=>whnf
   exact .inl ⟨rfl,ah,w,F,by rw[<- P];exact hI⟩
