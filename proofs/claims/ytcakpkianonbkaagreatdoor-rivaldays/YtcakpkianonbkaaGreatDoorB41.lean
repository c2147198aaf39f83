/- Lemmas. No conditions. -/
import Derived.Test.YtcakpkianonbkaaGreatDoorB40
import Derived.Test.YtcakpkianonbkaaGreatDoorB04
set_option linter.all false
open List
open Go.Proofs.Tryz (prog)
set_option maxRecDepth 100000
namespace Go.TM
def Bk.ords_le(b:Bk)(h:b.cs.length<=5):∀(k:Nat)(o:List Nat),(b.ords k o).length<=5^k:=by
 intro k
 induction k with
 |zero=>intro o;simp[Bk.ords]
 |succ k z=>
  intro o
  have key:∀m,(b.ordsTo k o m).length<=m*5^k:=by
   intro m
   induction m with
   |zero=>simp[Bk.ordsTo]
   |succ m B=>
    rw[b.ordsTo_succ,length_append,Nat.succ_mul]
    have:(if b.can o m then b.ords k (o++[m])else[]).length<=5^k:=by
     split
     .exact z _
     .exact Nat.zero_le _
    omega
  have e:=key b.cs.length;have w:b.cs.length*5^k<=5*5^k:=Nat.mul_le_mul_right _ h;rw[Nat.pow_succ,Nat.mul_comm];exact Nat.le_trans e w
def Bk.all_le(b:Bk)(h:b.cs.length<=5):b.all.length<=3125:=
 Nat.le_trans (b.ords_le h _ _) (Nat.le_trans (Nat.pow_le_pow_right O1 h) D1)
def Bk.wc(b:Bk)(k i:Nat):Nat:=(b.all.take k).countP λ o=>(b.ends o).2.getD i false
def Bk.wc_succ{b:Bk}{k:Nat}{o:List Nat}(h:b.all[k]?=some o)(i:Nat):b.wc (k+1) i=b.wc k i+if(b.ends o).2.getD i false then 1 else 0:=by
 unfold Bk.wc;rw[Z3 h,countP_append];simp[countP_cons]
def Bk.wc_le(b:Bk)(k i:Nat):b.wc k i<=b.all.length:=Nat.le_trans countP_le_length (by rw[length_take];omega)
def Bk.sc(b:Bk)(k:Nat):List (WU×Nat):=X_ ((b.all.take k).map λ o=>six (W8 (b.ends o).1))
def Bk.sc_succ{b:Bk}{k:Nat}{o:List Nat}(h:b.all[k]?=some o):b.sc (k+1)=WF (six (W8 (b.ends o).1)) (b.sc k):=by
 unfold Bk.sc;rw[Z3 h,map_append,map_singleton,Mx]
def Bk.sc_facts(b:Bk)(k:Nat):(b.sc k).length<=b.all.length/\(∀p∈b.sc k,p.2<=b.all.length)/\∀q:WU->Bool,H2 q (b.sc k)=(b.all.take k).countP λ o=>q (six (W8 (b.ends o).1)):=by
 obtain⟨h,w,z⟩:=gS _ ((b.all.take k).map λ o=>six (W8 (b.ends o).1)) rfl;have e:((b.all.take k).map λ o=>six (W8 (b.ends o).1)).length<=b.all.length:=S3
 exact⟨Nat.le_trans h e,λ p B=>Nat.le_trans (w p B) e,λ q=>by unfold Bk.sc;rw[z,countP_map];rfl⟩
def Wj(b:Bk)(k i:Nat):List Value:=(range b.cs.length).map λ j=>.int .i64 (b.wc (if j<i then k+1 else k) j:Nat)
def GU{b:Bk}{k i j:Nat}(h:j<b.cs.length):(Wj b k i)[j]?=some (.int .i64 (b.wc (if j<i then k+1 else k) j:Nat)):=by
 unfold Wj;rw[getElem?_map,getElem?_range h];rfl
def Sb(b:Bk)(k i:Nat):(Wj b k i).length=b.cs.length:=by simp[Wj]
def yA(b:Bk)(k i:Nat)(h:i<b.cs.length):(Wj b k i).toArray.setIfInBounds i (.int .i64 (b.wc (k+1) i:Nat))=(Wj b k (i+1)).toArray:=by
 apply Array.ext';rw[Array.toList_setIfInBounds];apply ext_getElem?;intro j;rw[getElem?_set];by_cases e:i=j
 .subst e;rw[if_pos rfl,if_pos (by simpa[Wj]using h),GU h,if_pos O1]
 .rw[if_neg e];by_cases w:j<b.cs.length
  .rw[GU w,GU w];have:(j<i)=(j<i+1):=propext O1;simp[this]
  .rw[getElem?_eq_none (by rw[Sb];omega),getElem?_eq_none (by rw[Sb];omega)]
def yz(b:Bk)(k:Nat):Wj b k b.cs.length=Wj b (k+1) 0:=by
 unfold Wj;refine map_congr_left λ j e=>?_;rw[if_pos (mem_range.1 e),if_neg O1]
def pk(b:Bk):Wj b 0 0=replicate b.cs.length (.int .i64 0):=by
 apply ext_getElem?;intro j;by_cases e:j<b.cs.length
 .rw[GU e,getElem?_replicate,if_pos e,if_neg O1];simp[Bk.wc]
 .rw[getElem?_eq_none (by rw[Sb];omega),getElem?_eq_none S3]
def dV{a n:Nat}(w:a<2^60)(h:n<60):IntKind.wrap .i64 ((BitVec.ofInt (IntKind.bits .i64) (Int.fdiv (a:Int) (2^(min ((n:Int).toNat) (IntKind.bits .i64))))&&&BitVec.ofInt (IntKind.bits .i64) 1).toNat:Int)=((if a.testBit n then 1 else 0:Nat):Int):=by
 have B:a>>>n<2^60:=Nat.lt_of_le_of_lt (Nat.shiftRight_le a n) w;have e:=Dr B (show 1<2^60 by decide);rw[show((1:Nat):Int)=1 from rfl]at e;have E:Int.fdiv (a:Int) (2^(min ((n:Int).toNat) (IntKind.bits .i64)))=((a>>>n:Nat):Int):=Dw h;have b:=Gi w h;rw[Dw h,e]at b;rw[E];refine e.trans ?_;congr 1;rw[Nat.and_one_is_mod]at b ⊢;have:a>>>n % 2<2:=Nat.mod_lt _ O1;cases z:a.testBit n with
 |true=>
  rw[z,beq_iff_eq]at b;simp only[if_true];omega
 |false=>
  rw[z]at b;have:=ne_of_beq_false b;simp only[Bool.false_eq_true,if_false];omega
variable{T:Type}{U:Qa T}
def Rs{b:Nat}{c:Array Value}{t:TypeId}{M':List Qw}{Q:Qa T->Prop}(w:U.free b)(z:M'.Sublist U.M)(h:∀e:Qa T,(∀x o,U.I x=some o->e.I x=some o)->e.tok=U.tok->e.M=M'->Zf e b c->Q e):∃e,Qx (U.put b (.cells c t)) e/\Q e:=
 ⟨_,(Wi (b:=b) (M':=U.M) (Perm.refl _)).trans (Z5 (M':=M') z),h _ (P1 (o:=.cells c t) w).imm rfl rfl Zf.new⟩
def dZ{κ:Type}[DecidableEq κ](k:κ)(z:Value)(l:List (κ×Value)):(lk k (Xe k z l)).getD z=(lk k l).getD z:=by
 unfold Xe;split
 .rfl
 .rename_i h;have w:lk k l=none:=by simpa using h
  rw[w]
  have:∀(l:List (κ×Value))(i:Nat),QM k l i=none->((QM k (l++[(k,z)]) i).map (·.2))=some z:=by
   intro l
   induction l with
   |nil=>intro i _;simp[QM]
   |cons p l B=>
    intro i b;simp only[QM]at b;split at b
    .cases b
    .rename_i e;simp only[cons_append,QM,if_neg e];exact B _ b
  unfold lk at w ⊢;rw[this l 0 (by simpa using w)];rfl
end Go.TM
namespace Go.Proofs
open Go.TM
def MW:∃b,prog.info? 3=some b/\b.zero=some (.int .i64 0)/\b.size=1/\b.bytes=8:=by
 have e:(prog.info? 3).map (·.zero)=some (some (.int .i64 0)):=K1
 have w:(prog.info? 3).map (·.size)=some 1:=K1
 have z:(prog.info? 3).map (·.bytes)=some 8:=K1
 cases h:prog.info? 3 with
 |none=>rw[h]at e;cases e
 |some b=>
  rw[h]at e w z;exact⟨b,rfl,Option.some.inj e,Option.some.inj w,Option.some.inj z⟩
def TO:Dx prog 103 6:=.of K1
def V2:prog.underlying 152=some (.map 103 3):=K1
def KW{T:Type}:WK T prog 103 (λ k:WU=>.agg (Hv k).toArray):=by
 obtain⟨e,E,b,w,z,B,-⟩:=TO.h;exact WK.arr b w rfl z B (λ k=>rfl) (λ k=>S4 _) uR λ k=>by simp[Instr.sameBits,Hv,QN]
def LG:Xh prog 57 39 1:=.of K1
def In:List (List (Nat×St)):=[[(0,.xl 27 4),(0,.xo 28 1 7),(0,.xd 29 6 28),(2,.d 30 (.raw { dst:=none,op:=(.lookup 152 (.t 27) (.t 29) false),type:=3,pos := "", after:=#[],guard:=none })),(0,.xa 31 30),(2,.d 32 (.raw { dst:=none,op:=(.mapEntry 152 (.t 27) (.t 29)),type:=0,pos := "", after:=#[],guard:=none })),(0,.xe 33 32 1)],
 [(0,.xl 27 4),(0,.xo 28 1 7),(0,.xd 29 6 28),(2,.d 32 (.raw { dst:=none,op:=(.mapEntry 152 (.t 27) (.t 29)),type:=0,pos := "", after:=#[],guard:=none })),(0,.xe 33 32 1),(2,.d 30 (.raw { dst:=none,op:=(.lookup 152 (.t 27) (.t 29) false),type:=3,pos := "", after:=#[],guard:=none })),(0,.xa 31 30)]]
def Al:List St:=[⟨.raw { dst:=none,op:=(.entryStore 152 (.t 27) (.t 33) (.t 31)),type:=0,pos := "", after:=#[],guard:=none },none,none,none⟩]
end Go.Proofs
namespace Go.TM
variable{T:Type}{P:Program}{S:Sys P T}{U:Qa T}
def Acc.letgo{e n:Nat}{v:Value}{cs:List Value}{M A M₀:List Qw}(h:Acc e n v cs M (A++M₀)):∃M',M'.Sublist M/\Acc e n v cs M' M₀:=by
 rcases h with⟨w,z,B⟩|⟨b,c,len,cap,w,z,E,F,B,G⟩
 .exact⟨M₀,by rw[B];exact sublist_append_right A M₀,.inl ⟨w,z,rfl⟩⟩
 .exact⟨_,by rw[B];exact(sublist_append_right A M₀).cons₂ _,.inr ⟨b,c,len,cap,w,z,E,F,rfl,G⟩⟩
def WN.sublist{U:Qa T}{M':List Qw}(e:WN U)(h:M'.Sublist U.M):WN { U with M:=M' }:=λ r b=>e r (h.subset b)
def Qb.lists2{f:FuncId}{args:Array Value}{e e':Nat}{X Y:List Int}{rest:List Value}(h:Qb S f args (λ v U'=>∃w z A H,v=.tuple (w::z::rest).toArray/\Acc e' 1 z (Y.map λ n=>.int .i64 n) U'.M H/\Acc e 1 w (X.map λ n=>.int .i64 n) H (A++U.M)/\(∀x L,U.I x=some L->U'.I x=some L)/\U'.tok=U.tok) U) :
  Qb S f args (λ v U'=>(∃w z,v=.tuple (w::z::rest).toArray/\J0 U'.frz w X/\J0 U'.frz z Y)/\U.le U') U:=by
 have F:Qb S f args (λ v U'=>∃w z A,v=.tuple (w::z::rest).toArray/\J0 U'.frz z Y/\Acc e 1 w (X.map λ n=>.int .i64 n) U'.M (A++U.M)/\(∀x L,U.I x=some L->U'.I x=some L)/\U'.tok=U.tok) U:=by
  refine h.sep λ v U' Q⟨w,z,A,H,V,N,F,P,T⟩=>?_;obtain⟨U'',W,B,a,len,cap,rfl,K,b,G,_⟩:=N.freeze (U:={ U' with M:=H }) Q (λ _ _ h=>h) rfl;simp at K;exact⟨U'',W,w,_,A,V,⟨a,cap,by rw[K],YS b G⟩,by rw[show U''.M=H from B.own];exact F,λ x o h=>B.imm x o (P x o h),B.tok.trans T⟩
 refine F.sep λ v U' Q⟨w,z,A,V,N,F,P,T⟩=>?_;obtain⟨M',E,F⟩:=F.letgo;obtain⟨U'',W,B,a,len,cap,rfl,K,b,G,_⟩:=F.freeze (U:={ U' with M:=U.M }) (U':={ U' with M:=M' }) (Q.sublist E) (λ _ _ h=>h) rfl;simp at K;have Z:U'.frz.lg U''.frz:=⟨B.imm,⟨[],rfl⟩,B.tok⟩;exact⟨U'',(Z5 E).trans W,⟨_,z,V,⟨a,cap,by rw[K],YS b G⟩,N.lg Z⟩,⟨λ x o h=>B.imm x o (P x o h),B.own,B.tok.trans T⟩⟩
def Jx(e:TypeId)(n:Nat)(v:Value)(cs:List Value)(A:List Qw):Prop:=∀M₁,Acc e n v cs (A++M₁) M₁
def Acc.split{e n:Nat}{v:Value}{cs:List Value}{M M₀:List Qw}(h:Acc e n v cs M M₀):∃A,M=A++M₀/\Jx e n v cs A:=by
 rcases h with⟨rfl,rfl,rfl⟩|⟨b,c,len,cap,rfl,w,z,B,rfl,E⟩
 .exact⟨[],rfl,λ _=>.inl ⟨rfl,rfl,rfl⟩⟩
 .exact⟨[_],rfl,λ _=>.inr ⟨b,c,len,cap,rfl,w,z,B,rfl,E⟩⟩
def Jx.nil{e n:Nat}:Jx e n (.slice none 0 0) [] []:=λ _=>.nil
def Jx.src{e n:Nat}{v:Value}{cs:List Value}{A:List Qw}(h:Jx e n v cs A):∃a l c,v=.slice a l c/\cs.length=l*n:=by
 rcases h []with⟨rfl,rfl,_⟩|⟨b,c,len,cap,rfl,w,_⟩
 .exact⟨none,0,0,rfl,S1⟩
 .exact⟨_,_,_,rfl,w⟩
def PJ{b:Nat}{o e:Obj}{M M':List Qw}(h:J7 b e o M M'):∀A:List Qw,J7 b e o (A++M) (A++M')
 |[]=>h
 |_::A=>.there (PJ h A)
def uS{s:Nat->Bool}{r:Nat}(b:r<6):ZG (QN s) (QN (Hx s r true))=s r:=by
 rw[Bool.eq_iff_iff,MA];unfold Hx;constructor
 .intro h;have:=h r b
  rwa [if_pos rfl]at this
 .intro h j _;by_cases e:j=r
  .rw[if_pos e,e,h]
  .rw[if_neg e]
def dL{κ:Type}{l:List (κ×Nat)}{i:Nat}{p:κ×Value}(h:(QH l)[i]?=some p):∃q,l[i]?=some q/\p=(q.1,.int .i64 (q.2:Nat)):=by
 unfold QH at h;rw[getElem?_map]at h;cases b:l[i]? with
 |none=>rw[b]at h;cases h
 |some q=>rw[b]at h;cases h;exact⟨q,rfl,rfl⟩
def ki{κ:Type}{q:κ->Bool}{l:List (κ×Nat)}{seen:Array Nat}{i:Nat}{p:κ×Nat}(h:l[i]?=some p):XD q l (seen.push i).toList=XD q l seen.toList+if q p.1 then p.2 else 0:=by
 unfold XD;rw[Array.toList_push,map_append,sum_append];simp[h]
abbrev ZH:WU->Value:=λ k=>.agg (Hv k).toArray
end Go.TM
namespace Go.Proofs
open Go.TM
variable{T:Type}{S:TM.Sys prog T}{U:Qa T}
attribute [local irreducible] Qb Zh Wh
set_option maxHeartbeats 2000000 in
def FL(h:BH)(b:Bk)(hb:Zp U.frz h b)(cp:b.Ok):Qb S 46 #[h.v] (λ v U'=>(∃v1 v2,v=.tuple #[v1,v2]/\J0 U'.frz v1 b.fatesR/\J0 U'.frz v2 b.fatesC)/\U.le U') U:=by
 refine Qb.lists2 (e:=39) (e':=39) (rest:=[]) (Qb.of (args:=[_]) SF Qe S1 ?_);have eb:=hb.cs.1;have fl:=hb.rs.1;have es:=cp.nc;have fj:=cp.nr;have hN:=b.all_le es;obtain⟨i3,e9,fa,fb,ft⟩:=MW
 repeat refine⟨rfl,?_⟩
 conv=>whnf
 intro B U1 bh hB;have hB:Zf U1 B #[.slice h.ra h.rl h.rc,.slice h.ca h.cl h.cc]:=hB
 conv=>whnf
 refine PH ZH λ mb en=>?_
 conv=>whnf
 intro b4 c7;refine⟨_,.refl _,rfl,Zu (vs:=[.map (some mb)]) c7 rfl (by simp[Value.single]) λ U2 ch bj=>?_⟩;have W:U1.lg U2:=(Z2 mb _).trans ch.lg;refine⟨_,(hB.lg W).sees3 (o:=1) rfl,?_⟩
 conv=>whnf
 refine I6 (n:=h.cl) V7 e9 fa rfl fb O1 rfl rfl O1 λ F e8=>?_
 conv=>whnf
 intro b5 c8;refine⟨_,.refl _,rfl,Zu (vs:=[.slice (some ⟨F,0,none⟩) h.cl h.cl]) c8 rfl (by simp[Value.single]) λ U3 cj bk=>?_⟩;have X:U2.lg U3:=(Z2 F _).trans cj.lg
 conv=>whnf
 intro P ee;refine⟨_,.refl _,rfl,Gd (vs:=[.int .i64 0]) rfl (by simp[Value.single]) ?_⟩;have aa:=Z2 (U:=U3) P (.cells #[.int .i64 0] 3);refine⟨_,⟨rfl,(hB.lg (W.trans (X.trans aa))).rd⟩,?_⟩;refine⟨Si.any,(F_ h b ((hb.lg bh.lg.frz2).lg (Qm.trans (W.trans (X.trans aa))))).mono ?_⟩;rintro _ U4⟨⟨B',rfl,cu⟩,az⟩-;have aj:U1.lg U4:=W.trans (X.trans (aa.trans az.lg));have bj:Zf U4 b4 #[.map (some mb)]:=bj.lg (X.trans (aa.trans az.lg));have bk:Zf U4 b5 #[.slice (some ⟨F,0,none⟩) h.cl h.cl]:=bk.lg (aa.trans az.lg)
 have d6:U4.M=.obj P (.cells #[.int .i64 ((0:Nat):Int)] 3 (0,0))::.obj F (.cells (Wj b 0 0).toArray 3 (0,0))::.obj mb (Qt ZH (QH (b.sc 0)))::U.M:=by
  rw[az.own,pk,eb];show _::U3.M=_;rw[cj.own];show _::_::U2.M=_;rw[ch.own];show _::_::_::U1.M=_;rw[bh.own];rfl
 have bz:U.frz.lg U4.frz:=bh.lg.frz2.trans aj.frz2;have e4:U4.tok=U.tok:=aj.tok.trans bh.tok;have bm:∀l N,U4.frz.lg N->Oi S 83 #[.func (.yield l) #[] #[],.pointer (some ⟨B',0,none⟩)] l b.all.length (Pc b) N:=λ l N hl=>FA h b (hb.lg (bz.trans hl.frz2)) cp (cu.imI hl.imm);clear cu aa X W e8 c7 c8 ee en ch cj az
 conv=>whnf
 let Inv:Nat->Qa T->Prop:=λ k U'=>U4.frz.lg U'/\U'.M=.obj P (.cells #[.int .i64 (k:Nat)] 3 (0,0))::.obj F (.cells (Wj b k 0).toArray 3 (0,0))::.obj mb (Qt ZH (QH (b.sc k)))::U.M
 refine Mb Qe b.all.length (Pc b) Inv (λ _ _=>False) (λ _=>False) rfl rfl So.any bm ?_ ?_ ⟨Qm,d6⟩ ?_ ?_ ?_ ?_
 .rintro k p U' ⟨o,v,-,rfl,-⟩;rfl
 .rintro k U' U'' w ⟨hl,hM⟩;exact⟨Dm hl w,w.own.trans hM⟩
 .rintro l A' Bd D k p U₀ KN KX KR KA hk ⟨o,v,ho,rfl,a,cap,rfl,hio,hcap,hsp⟩ ⟨hl,hM⟩ hKN hKX hKR hKA
  conv=>whnf
  intro b7 c9;refine⟨_,.refl _,rfl,Zu (vs:=QT (.slice a o.length cap) (W8 (b.ends o).1) (J4 (b.ends o).2)) c9 rfl (by simp[QT,Value.single]) λ N bi bw=>?_⟩
  conv=>whnf
  have e1:N=({ N with M:=U₀.M }:Qa T).on A' D:=by
   have:=bi.own;obtain⟨i1,m1,t1⟩:=N;simp only[Qa.on]at this ⊢;rw[this]
  rw[e1];refine hKA _ _ ?_;have bg:(({ N with M:=U₀.M }:Qa T).on Bd D).M=[Bd,D]++(.obj P (.cells #[.int .i64 (k:Nat)] 3 (0,0))::.obj F (.cells (Wj b k 0).toArray 3 (0,0))::.obj mb (Qt ZH (QH (b.sc k)))::U.M):=by show Bd::D::U₀.M=_;rw[hM];rfl
  have cf:∀x o,U₀.I x=some o->(({ N with M:=U₀.M }:Qa T).on Bd D).I x=some o:=λ x o h=>bi.imm x o h;have au:Zf (({ N with M:=U₀.M }:Qa T).on Bd D) b7 (QT (.slice a o.length cap) (W8 (b.ends o).1) (J4 (b.ends o).2)).toArray:=bw;have cq:(({ N with M:=U₀.M }:Qa T).on Bd D).tok=U₀.tok:=bi.tok;generalize(({ N with M:=U₀.M }:Qa T).on Bd D)=U6 at bg cf au cq ⊢;clear e1 bi bw c9;refine⟨_,Q9 [Bd,D] bg 0 _ rfl,I1,?_⟩;refine⟨rfl,Jt (vs:=[.int .i64 ((k:Int)+1)]) [Bd,D] bg rfl (by simp[Value.single]) λ U7 ay b8 al=>?_⟩;have bf:∀x o,U₀.I x=some o->U7.I x=some o:=λ x o h=>by rw[ay];exact cf x o h
  have au:Zf U7 b7 (QT (.slice a o.length cap) (W8 (b.ends o).1) (J4 (b.ends o).2)).toArray:=au.imI λ x o h=>by rw[ay];exact h
  have br:Zf U7 b4 #[.map (some mb)]:=bj.imI λ x o h=>bf x o (hl.imm x o h);have bs:Zf U7 b5 #[.slice (some ⟨F,0,none⟩) h.cl h.cl]:=bk.imI λ x o h=>bf x o (hl.imm x o h);have d1:U7.tok=U₀.tok:=b8.trans cq;obtain⟨dd,an,-⟩:=b.sc_facts k;have ec:JG (six (W8 (b.ends o).1)) (b.sc k)<=3125:=Nat.le_trans (M_ _ _ an) hN;have ej:∀q:WU,ZH q=.agg (Hv q).toArray:=λ _=>rfl;have af:Value.agg (QN (W8 (b.ends o).1)).toArray=ZH (six (W8 (b.ends o).1)):=by rw[ej,sb]
  have ao:=dH (six (W8 (b.ends o).1)) (.int .i64 0) (.int .i64 ((JG (six (W8 (b.ends o).1)) (b.sc k)+1:Nat):Int)) (QH (b.sc k));rw[Nk,<- b.sc_succ ho]at ao;have a8:Ze ((JG (six (W8 (b.ends o).1)) (b.sc k):Nat)+1:Int):=I1
  have bd:Z6 U7.frz ((Addr.mk b7 0 none).add 1) (QN (W8 (b.ends o).1)):=
   ((au.imI (U':=U7.frz) λ _ _ h=>h).reads (vs:=QT (.slice a o.length cap) (W8 (b.ends o).1) (J4 (b.ends o).2)) (λ k v hv=>by simpa using hv)).sub (o:=1) (n:=6)
  have a0:Zf U7.frz b4 #[.map (some mb)]:=br.imI λ _ _ h=>h;generalize hK:six (W8 (b.ends o).1)=ky at ec af ao a8
  let F0:Qa T->Prop:=λ U'=>U7.frz.lg U'/\U'.M=U7.M
  let F1:Qa T->Prop:=λ U'=>U7.frz.lg U'/\U'.M=[Bd,D]++(.obj P (.cells #[.int .i64 ((k:Int)+1)] 3 (0,0))::.obj F (.cells (Wj b k 0).toArray 3 (0,0))::.obj mb (Qt ZH (Xe ky (.int .i64 0) (QH (b.sc k))))::U.M)
  conv=>whnf
  intro ac a6
  refine D8 (mu:=[]) (ops:=Pw Tryz.f46 7) (id:=7) a6 [3,5] [[0,1,2,3,4,5,6],[0,1,2,5,6,3,4]] [7] In Al Qe K1 K1 K1 K1 K1
   (λ f' ct U'=>ct=[]/\XS f' [(5,.pointer (some ⟨b5,0,none⟩)),(7,.pointer (some ⟨b7,0,none⟩)),(27,.map (some mb)),(31,.int .i64 ((JG ky (b.sc k):Nat)+1:Int)),(33,.int .i64 (H6 ky (QH (b.sc k)):Nat))]/\F1 U') ?_ ?_
  .intro l hl;simp only[In,mem_cons,not_mem_nil,or_false]at hl;rcases hl with rfl|rfl
   .skip
    refine⟨_,a0.sees3 (o:=0) rfl,_,⟨rfl,bd⟩,λ v U'=>v=.int .i64 (JG ky (b.sc k):Nat)/\F0 U',λ v U1 U2 G w=>⟨G.1,G.2.1.trans w.lg,w.own.trans G.2.2⟩,λ v U' G=>G.2.1,λ U' hC=>?_,λ v hv=>?_⟩
    .have H:U'.M=U7.M:=hC.own;have E:U7.frz.lg U':=⟨hC.imm,⟨_,(append_nil _).symm⟩,hC.tok⟩
     conv=>whnf
     refine TG (k:=ky) (l:=QH (b.sc k)) KW V2 Gb rfl af (.inr (by rw[H,al];simp)) ?_;rw[VR];exact⟨_,.refl _,rfl,E,H⟩
    obtain⟨_,rfl,-⟩:=hv;refine⟨a8,λ v U'=>v=.tuple #[.int .i64 (JG ky (b.sc k):Nat),.int .i64 (H6 ky (QH (b.sc k)):Nat)]/\F1 U',λ v U1 U2 G w=>⟨G.1,G.2.1.trans w.lg,w.own.trans G.2.2⟩,λ v U' G=>G.2.1,λ U' hC=>?_,λ v hv=>?_⟩
    .obtain⟨-,E,H⟩:=hC
     conv=>whnf
     refine I7 (k:=ky) (l:=QH (b.sc k)) (z:=.int .i64 0) (M':=[Bd,D]++(.obj P (.cells #[.int .i64 ((k:Int)+1)] 3 (0,0))::.obj F (.cells (Wj b k 0).toArray 3 (0,0))::.obj mb (Qt ZH (Xe ky (.int .i64 0) (QH (b.sc k))))::U.M)) KW V2 Gb rfl af (by rw[H,al];exact .there (.there (.there (.there .here)))) ?_;rw[VR];exact⟨_,.refl _,rfl,⟨E.imm,⟨_,(append_nil _).symm⟩,E.tok⟩,rfl⟩
    obtain⟨_,rfl,-⟩:=hv
    conv=>whnf
    rintro U'⟨-,G⟩;exact⟨rfl,T1,G⟩
   .skip
    refine⟨_,a0.sees3 (o:=0) rfl,_,⟨rfl,bd⟩,λ v U'=>v=.tuple #[.int .i64 (JG ky (b.sc k):Nat),.int .i64 (H6 ky (QH (b.sc k)):Nat)]/\F1 U',λ v U1 U2 G w=>⟨G.1,G.2.1.trans w.lg,w.own.trans G.2.2⟩,λ v U' G=>G.2.1,λ U' hC=>?_,λ v hv=>?_⟩
    .have H:U'.M=U7.M:=hC.own;have E:U7.frz.lg U':=⟨hC.imm,⟨_,(append_nil _).symm⟩,hC.tok⟩
     conv=>whnf
     refine I7 (k:=ky) (l:=QH (b.sc k)) (z:=.int .i64 0) (M':=[Bd,D]++(.obj P (.cells #[.int .i64 ((k:Int)+1)] 3 (0,0))::.obj F (.cells (Wj b k 0).toArray 3 (0,0))::.obj mb (Qt ZH (Xe ky (.int .i64 0) (QH (b.sc k))))::U.M)) KW V2 Gb rfl af (by rw[H,al];exact .there (.there (.there (.there .here)))) ?_;rw[VR];exact⟨_,.refl _,rfl,⟨E.imm,⟨_,(append_nil _).symm⟩,E.tok⟩,rfl⟩
    obtain⟨_,rfl,-⟩:=hv;refine⟨λ v U'=>v=.int .i64 (JG ky (b.sc k):Nat)/\F1 U',λ v U1 U2 G w=>⟨G.1,G.2.1.trans w.lg,w.own.trans G.2.2⟩,λ v U' G=>G.2.1,λ U' hC=>?_,λ v hv=>?_⟩
    .obtain⟨-,E,H⟩:=hC
     conv=>whnf
     refine TG (k:=ky) (l:=Xe ky (.int .i64 0) (QH (b.sc k))) KW V2 Gb rfl af (.inr (by rw[H];simp)) ?_;rw[dZ,VR];exact⟨_,.refl _,rfl,E,H⟩
    obtain⟨_,rfl,-⟩:=hv;refine⟨a8,?_⟩
    conv=>whnf
    rintro U'⟨-,G⟩;exact⟨rfl,T1,G⟩
  rintro f' ct U8⟨rfl,da,Y,bp⟩;rw[<- da.ovr];clear da;have d7:List Qw:=[Bd,D]++(.obj P (.cells #[.int .i64 ((k:Int)+1)] 3 (0,0))::.obj F (.cells (Wj b k 0).toArray 3 (0,0))::.obj mb (Qt ZH (QH (b.sc (k+1))))::U.M)
  conv=>whnf
  refine zB (n:=H6 ky (QH (b.sc k))) (l:=Xe ky (.int .i64 0) (QH (b.sc k))) (v:=.int .i64 ((JG ky (b.sc k)+1:Nat):Int)) (M':=[Bd,D]++(.obj P (.cells #[.int .i64 ((k:Int)+1)] 3 (0,0))::.obj F (.cells (Wj b k 0).toArray 3 (0,0))::.obj mb (Qt ZH (QH (b.sc (k+1))))::U.M)) rfl rfl ao.2 rfl (by rw[bp,ao.1];exact .there (.there (.there (.there .here)))) ?_
  conv=>whnf
  intro a' bl;refine⟨by rw[bl.size,a6.size],_,bl.get,?_⟩;rw[bl.ds];clear bl a6;have bv:=au.imI Y.imm;have bt:=bs.imI Y.imm;have bo:∀x o,U₀.I x=some o->U8.I x=some o:=λ x o h=>Y.imm x o (bf x o h);have b9:U8.tok=U₀.tok:=Y.tok.trans d1;generalize aq:({ U8 with M:=[Bd,D]++(.obj P (.cells #[.int .i64 ((k:Int)+1)] 3 (0,0))::.obj F (.cells (Wj b k 0).toArray 3 (0,0))::.obj mb (Qt ZH (QH (b.sc (k+1))))::U.M) }:Qa T)=U9;have cx:U9.M=[Bd,D]++(.obj P (.cells #[.int .i64 ((k:Int)+1)] 3 (0,0))::.obj F (.cells (Wj b k 0).toArray 3 (0,0))::.obj mb (Qt ZH (QH (b.sc (k+1))))::U.M):=by rw[<- aq]
  have cw:∀x o,U₀.I x=some o->U9.I x=some o:=by rw[<- aq];exact bo
  have c4:Zf U9 b7 (QT (.slice a o.length cap) (W8 (b.ends o).1) (J4 (b.ends o).2)).toArray:=by rw[<- aq];exact bv
  have bu:Zf U9 b5 #[.slice (some ⟨F,0,none⟩) h.cl h.cl]:=by rw[<- aq];exact bt
  have d0:U9.tok=U₀.tok:=by rw[<- aq];exact b9
  clear aq d7 bp Y bv bt bo b9 a0 bd br bs au al ay bf b8 d1 bg cf cq F0 F1;have em:=b.ends_len o;have e7:J4 (b.ends o).2<2^5:=OT _ O1;have d2:J4 (b.ends o).2<2^60:=Nat.lt_trans e7 D1;refine⟨_,bu.sees3 (o:=0) rfl,Nat,λ i=>[(5,.pointer (some ⟨b5,0,none⟩)),(7,.pointer (some ⟨b7,0,none⟩)),(35,.int .i64 h.cl),(36,.int .i64 i)],
   λ i U'=>U9.frz.lg U'/\U'.M=[Bd,D]++(.obj P (.cells #[.int .i64 ((k:Int)+1)] 3 (0,0))::.obj F (.cells (Wj b k i).toArray 3 (0,0))::.obj mb (Qt ZH (QH (b.sc (k+1))))::U.M)/\i<=h.cl,λ i=>h.cl-i,0,T1,⟨Qm,cx,O1⟩,?_⟩
  rintro i f Ua⟨V,ab,hi⟩;have a7:Ze ((i:Int)+1):=I1
  repeat refine⟨rfl,?_⟩
  conv=>whnf
  apply Qd<;>intro hc
  .have av:i<h.cl:=by simpa using hc
   have fq:=b.wc_le k i;have ag:=GU (b:=b) (k:=k) (i:=i) (j:=i) O1;rw[if_neg O1]at ag
   have cr:Ua.sees ((Addr.mk F 0 none).add (i*1)) (.int .i64 (b.wc k i:Nat)):=by
    rw[Nat.mul_one];exact Q9 [Bd,D,_] ab i _ ag
   have ck:=dV d2 (show i<60 by omega);rw[Vm]at ck
   have db:Ze ((b.wc k i:Nat)+IntKind.wrap .i64 ((BitVec.ofInt (IntKind.bits .i64) (Int.fdiv (J4 (b.ends o).2:Int) (2^(min ((i:Int).toNat) (IntKind.bits .i64))))&&&BitVec.ofInt (IntKind.bits .i64) 1).toNat:Int)):=by
    rw[ck];unfold Ze;split <;> omega
   have e2:((b.wc k i:Nat):Int)+IntKind.wrap .i64 ((BitVec.ofInt (IntKind.bits .i64) (Int.fdiv (J4 (b.ends o).2:Int) (2^(min ((i:Int).toNat) (IntKind.bits .i64))))&&&BitVec.ofInt (IntKind.bits .i64) 1).toNat:Int)=((b.wc (k+1) i:Nat):Int):=by
    rw[ck,b.wc_succ ho i];simp
   refine⟨_,(bu.imI V.imm).sees3 (o:=0) rfl,⟨F,0,none⟩,i,⟨rfl,rfl,av⟩,_,cr,_,(c4.imI V.imm).sees3 (o:=7) rfl,O1,rfl,?_⟩
   conv=>whnf
   intro Ub L _;have Q:=L.own.trans ab;refine⟨db,?_⟩;rw[e2];refine⟨⟨F,0,none⟩,i,⟨rfl,rfl,av⟩,rfl,?_⟩;rw[Nat.mul_one];refine WQ (i:=i) (v:=.int .i64 (b.wc (k+1) i:Nat)) [Bd,D,_] Q (by simp[Wj];omega) rfl λ Uc d4 e5 ap=>?_;rw[yA b k i O1]at ap;have el:U9.frz.lg Uc:=⟨λ x o h=>by rw[d4];exact L.imm x o (V.imm x o h),⟨_,(append_nil _).symm⟩,e5.trans (L.tok.trans V.tok)⟩;refine⟨a7,?_⟩
   conv=>whnf
   exact⟨rfl,i+1,T1,⟨el,ap,O1⟩,L1⟩
  .have hge:i=b.cs.length:=by simp at hc;omega
   subst hge;rw[yz]at ab
   have e3:Ua=({ Ua with M:=.obj P (.cells #[.int .i64 ((k:Int)+1)] 3 (0,0))::.obj F (.cells (Wj b (k+1) 0).toArray 3 (0,0))::.obj mb (Qt ZH (QH (b.sc (k+1))))::U.M }:Qa T).on Bd D:=by
    obtain⟨i1,m1,t1⟩:=Ua;simp only[Qa.on]at ab ⊢;rw[ab];rfl
   have dc:U₀.frz.lg ({ Ua with M:=.obj P (.cells #[.int .i64 ((k:Int)+1)] 3 (0,0))::.obj F (.cells (Wj b (k+1) 0).toArray 3 (0,0))::.obj mb (Qt ZH (QH (b.sc (k+1))))::U.M }:Qa T):=⟨λ x o h=>V.imm x o (cw x o h),⟨_,(append_nil _).symm⟩,V.tok.trans d0⟩;have ek:=hl.frz2.trans dc
   conv=>whnf
   rw[e3];exact hKN _ _ _ dc ⟨ek,rfl⟩
 .rintro d l OA U3' ⟨hl,hM⟩;have cg:(U3'.on (.obj l OA) (.obj d (.deferred (some [])))).M=[.obj l OA,.obj d (.deferred (some []))]++(.obj P (.cells #[.int .i64 (b.all.length:Nat)] 3 (0,0))::.obj F (.cells (Wj b b.all.length 0).toArray 3 (0,0))::.obj mb (Qt ZH (QH (b.sc b.all.length)))::U.M):=by show _::_::U3'.M=_;rw[hM];rfl
  have ax:∀x o,U4.I x=some o->(U3'.on (.obj l OA) (.obj d (.deferred (some [])))).I x=some o:=hl.imm;have dt:(U3'.on (.obj l OA) (.obj d (.deferred (some [])))).tok=U4.tok:=hl.tok;generalize(U3'.on (.obj l OA) (.obj d (.deferred (some []))))=N at cg ax dt ⊢;have d3:Zf N B #[.slice h.ra h.rl h.rc,.slice h.ca h.cl h.cc]:=hB.imI λ x o h=>ax x o (aj.imm x o h);have c2:Zf N b4 #[.map (some mb)]:=bj.imI ax;have c3:Zf N b5 #[.slice (some ⟨F,0,none⟩) h.cl h.cl]:=bk.imI ax;have cv:∀x o,U.I x=some o->N.I x=some o:=λ x o h=>ax x o (bz.imm x o h);have dy:N.tok=U.tok:=dt.trans e4;obtain⟨dd,an,b3⟩:=b.sc_facts b.all.length;rw[take_length]at b3;generalize aw:[.obj l OA,.obj d (.deferred (some []))]++(.obj P (.cells #[.int .i64 (b.all.length:Nat)] 3 (0,0))::.obj F (.cells (Wj b b.all.length 0).toArray 3 (0,0))::.obj mb (Qt ZH (QH (b.sc b.all.length)))::U.M)=Ba at cg;have bb:Qw.obj mb (Qt ZH (QH (b.sc b.all.length)))∈Ba:=by rw[<- aw];simp
  clear hl hM bm Inv;refine⟨_,d3.sees3 (o:=0) rfl,Nat×Value,λ y=>[(2,y.2),(3,.slice none 0 0),(4,.pointer (some ⟨b4,0,none⟩)),(5,.pointer (some ⟨b5,0,none⟩)),(6,.pointer (some ⟨P,0,none⟩)),(54,.int .i64 h.rl),(55,.int .i64 y.1)],
   λ y U'=>N.frz.lg U'/\(∃A,U'.M=A++Ba/\Jx 39 1 y.2 (((range y.1).map b.fatR).map λ n=>.int .i64 n) A)/\y.1<=h.rl,λ y=>h.rl-y.1,(0,.slice none 0 0),T1,⟨Qm,⟨[],cg,.nil⟩,O1⟩,?_⟩
  rintro⟨r,v⟩f Ua⟨V,⟨A,ab,Z⟩,hr⟩;simp only at Z hr;obtain⟨sa,sl,sc,rfl,fo⟩:=Z.src;have a7:Ze ((r:Int)+1):=I1
  repeat refine⟨rfl,?_⟩
  conv=>whnf
  apply Qd<;>intro hc
  .have hrt:r<h.rl:=by simpa using hc
   have ak:r<6:=O1
   refine⟨_,(c2.imI V.imm).sees3 (o:=0) rfl,?_⟩
   conv=>whnf
   refine TX (enc:=ZH) (l:=QH (b.sc b.all.length)) V2 rfl (.inr (by rw[ab];exact mem_append_right _ bb)) λ it ff=>?_
   refine⟨Array Nat,λ seen=>[(2,.slice sa sl sc),(3,.slice none 0 0),(4,.pointer (some ⟨b4,0,none⟩)),(5,.pointer (some ⟨b5,0,none⟩)),(6,.pointer (some ⟨P,0,none⟩)),(9,.int .i64 r),(10,.int .i64 (XD (λ k:WU=>W8 k.1 r) (b.sc b.all.length) seen.toList:Nat)),(54,.int .i64 h.rl),(55,.int .i64 r),(59,.pointer (some ⟨it,0,none⟩))],
    λ seen U'=>N.frz.lg U'/\U'.M=.obj it (J1 mb (QH (b.sc b.all.length)).length seen)::(A++Ba)/\seen.toList.Nodup/\∀i∈seen.toList,i<(b.sc b.all.length).length,λ seen=>(b.sc b.all.length).length-seen.size,#[],T1,⟨V.trans (Z2 _ _),by show _::Ua.M=_;rw[ab],S1,S1⟩,?_⟩
   rintro seen f Ub⟨L,Q,co,av⟩
   have e0:seen.size<=(b.sc b.all.length).length:=by
    have:=Hj co av;simpa using this
   have fg:=N9 (q:=λ k:WU=>W8 k.1 r) an seen.toList;have ep:seen.toList.length*b.all.length<=3125*3125:=Nat.mul_le_mul (by rw[Array.length_toList];omega) hN
   conv=>whnf
   refine Dc (enc:=ZH) (l:=QH (b.sc b.all.length)) (λ o=>.obj it o::(A++Ba)) rfl (.inr (by rw[Q];exact mem_cons_of_mem _ (mem_append_right _ bb))) (λ o=>by rw[Q];exact .here) (λ c1=>?_) (λ i p hp ev=>?_)
   .have hfin:XD (λ k:WU=>W8 k.1 r) (b.sc b.all.length) seen.toList=b.all.countP λ o=>(b.ends o).1.getD r false:=by
     rw[sW co av (λ i hi=>by have:=c1 i (by rw[dE];exact hi);simpa using this),b3];congr 1;funext o;exact NF _ ak
    have be:Hy (XD (λ k:WU=>W8 k.1 r) (b.sc b.all.length) seen.toList) b.all.length=b.fatR r:=by rw[hfin];rfl
    have ea:=Q9 (U:=Ub) (b:=P) (e:=3) (vs:=[.int .i64 (b.all.length:Nat)]) (.obj it (J1 mb (QH (b.sc b.all.length)).length seen)::(A++[.obj l OA,.obj d (.deferred (some []))])) (by rw[Q,<- aw];simp;rfl)
    repeat refine⟨rfl,?_⟩
    refine⟨_,ea 0 _ rfl,Sn.any,(Ip _ _).go λ _=>?_⟩;rw[be]
    conv=>whnf
    intro bn cm;refine Rs (M':=A++Ba) cm (by rw[Q];exact sublist_cons_self ..) λ Ud d5 e6 d8 ai=>?_;have ai:Zf Ud bn #[.int .i64 (b.fatR r)]:=ai;have a9:N.frz.lg Ud:=⟨λ x o h=>d5 x o (L.imm x o h),⟨_,(append_nil _).symm⟩,e6.trans L.tok⟩
    conv=>whnf
    refine Wy (v:=.slice sa sl sc) (cs:=((range r).map b.fatR).map λ n=>.int .i64 n) (new:=[.int .i64 (b.fatR r)]) (M₀:=Ba) LG rfl rfl (by rw[d8];exact Z _) (.inr ⟨_,rfl,ai.rd⟩) rfl (by simp[Value.single]) S3 λ v' M' ah _=>?_;have ah:Acc 39 1 v' (((range (r+1)).map b.fatR).map λ n=>.int .i64 n) M' Ba:=by rw[range_succ];simpa using ah
    obtain⟨ce,H,ae⟩:=ah.split;obtain⟨ta,tl,tc,rfl,-⟩:=ae.src;refine⟨a7,?_⟩
    conv=>whnf
    exact⟨rfl,(r+1,.slice ta tl tc),T1,⟨⟨a9.imm,⟨_,(append_nil _).symm⟩,a9.tok⟩,⟨ce,H,ae⟩,by show r+1<=h.rl;omega⟩,L1⟩
   .obtain⟨q,hq,rfl⟩:=dL hp;have fk:q.2<=3125:=Nat.le_trans (an q (mem_of_getElem? hq)) hN;have ei:=(List.getElem?_eq_some_iff.1 hq).1;have ad:=ki (q:=λ k:WU=>W8 k.1 r) (seen:=seen) hq
    have bc:(seen.push i).toList.Nodup:=by
     rw[Array.toList_push,nodup_append];refine⟨co,S1,λ x hx y hy=>?_⟩;rw[mem_singleton.1 hy];rintro rfl;exact ev (by simpa using hx)
    have ba:∀j∈(seen.push i).toList,j<(b.sc b.all.length).length:=by
     intro j hj;rw[Array.toList_push,mem_append]at hj;rcases hj with hj|hj
     .exact av j hj
     .rw[mem_singleton.1 hj];exact ei
    have bx:(b.sc b.all.length).length-(seen.push i).size<(b.sc b.all.length).length-seen.size:=by
     have:=Hj bc ba;rw[Array.length_toList,Array.size_push]at this;rw[Array.size_push];omega
    have b0:N.frz.lg ({ Ub with M:=.obj it (J1 mb (QH (b.sc b.all.length)).length (seen.push i))::(A++Ba) }:Qa T):=⟨L.imm,⟨_,(append_nil _).symm⟩,L.tok⟩;generalize cz:({ Ub with M:=.obj it (J1 mb (QH (b.sc b.all.length)).length (seen.push i))::(A++Ba) }:Qa T)=Uc at b0 ⊢;have ap:Uc.M=.obj it (J1 mb (QH (b.sc b.all.length)).length (seen.push i))::(A++Ba):=by rw[<- cz]
    clear cz
    repeat refine⟨rfl,?_⟩
    conv=>whnf
    refine TW (enc:=ZH) (l:=QH (b.sc b.all.length)) rfl (.inr (by rw[ap];exact mem_cons_of_mem _ (mem_append_right _ bb))) (.inr (by rw[ap];exact mem_cons_self ..)) hp ?_
    conv=>whnf
    intro fh c5;refine⟨_,.refl _,rfl,Zu (vs:=QN (W8 q.1.1)) c5 rfl (Tn _) λ Ud d9 am=>?_⟩;refine⟨_,⟨rfl,am.rd⟩,?_⟩
    conv=>whnf
    intro fi c6;refine⟨_,.refl _,rfl,Gd (vs:=QN (W8 q.1.1)) rfl (Tn _) ?_⟩;refine⟨r,⟨rfl,ak⟩,rfl,?_⟩;rw[Nat.mul_one];refine dD (c:=(QN (W8 q.1.1)).toArray) (v:=.bool true) c6 ak rfl λ Ue c0 bq=>?_;rw[Ff _ ak]at bq;have am:=am.le c0;have b2:=d9.trans c0;refine⟨_,⟨rfl,am.rd⟩,?_⟩;refine⟨_,⟨rfl,bq.rd⟩,?_⟩
    conv=>whnf
    obtain⟨eT,fc,a1,a2,a3,a4,a5⟩:=TO.h;refine uJ a1 a2 rfl a3 a4 a5 (vs:=QN (W8 q.1.1)) (ws:=QN (Hx (W8 q.1.1) r true)) rfl rfl rfl rfl (S4 _) (S4 _) ?_;rw[uS ak];have cy:=b2.own.trans ap;have b1:N.frz.lg Ue:=b0.trans b2.lg;cases dl:W8 q.1.1 r with
    |true=>
     rw[if_pos dl]at ad;refine⟨I1,?_⟩
     conv=>whnf
     exact⟨rfl,seen.push i,⟨rfl,rfl,rfl,rfl,rfl,rfl,by rw[ad];rfl,rfl,rfl,rfl,trivial⟩,⟨b1,cy,bc,ba⟩,bx⟩
    |false=>
     rw[if_neg (by rw[dl];simp),Nat.add_zero]at ad
     conv=>whnf
     exact⟨rfl,seen.push i,⟨rfl,rfl,rfl,rfl,rfl,rfl,by rw[ad];rfl,rfl,rfl,rfl,trivial⟩,⟨b1,cy,bc,ba⟩,bx⟩
  .have hge:r=b.rs.length:=by simp at hc;omega
   subst hge;have Z:Jx 39 1 (.slice sa sl sc) (b.fatesR.map λ n=>.int .i64 n) A:=Z;refine⟨_,(c3.imI V.imm).sees3 (o:=0) rfl,Nat×Value,λ y=>[(2,.slice sa sl sc),(3,y.2),(6,.pointer (some ⟨P,0,none⟩)),(81,.slice (some ⟨F,0,none⟩) h.cl h.cl),(82,.int .i64 h.cl),(83,.int .i64 y.1)],
    λ y U'=>N.frz.lg U'/\(∃A2,U'.M=A2++(A++Ba)/\Jx 39 1 y.2 (((range y.1).map b.fatC).map λ n=>.int .i64 n) A2)/\y.1<=h.cl,λ y=>h.cl-y.1,(0,.slice none 0 0),T1,⟨V,⟨[],ab,.nil⟩,O1⟩,?_⟩
   rintro⟨i,v⟩f Ub⟨L,⟨A2,Q,K⟩,hi⟩;simp only at K hi;obtain⟨ua,ul,uc,rfl,fp⟩:=K.src;have a7:Ze ((i:Int)+1):=I1
   repeat refine⟨rfl,?_⟩
   conv=>whnf
   apply Qd<;>intro hc
   .have bm:i<h.cl:=by simpa using hc
    have ex:=Q9 (U:=Ub) (b:=F) (e:=3) (vs:=Wj b b.all.length 0) (A2++A++[.obj l OA,.obj d (.deferred (some [])),.obj P (.cells #[.int .i64 (b.all.length:Nat)] 3 (0,0))]) (by rw[Q,<- aw];simp;rfl);have ak:=Q9 (U:=Ub) (b:=P) (e:=3) (vs:=[.int .i64 (b.all.length:Nat)]) (A2++A++[.obj l OA,.obj d (.deferred (some []))]) (by rw[Q,<- aw];simp;rfl);have ag:=GU (b:=b) (k:=b.all.length) (i:=0) (j:=i) O1;rw[if_neg O1]at ag
    have cr:Ub.sees ((Addr.mk F 0 none).add (i*1)) (.int .i64 (b.wc b.all.length i:Nat)):=by
     rw[Nat.mul_one];exact ex i _ ag
    have be:Hy (b.wc b.all.length i) b.all.length=b.fatC i:=by unfold Bk.wc;rw[take_length];rfl
    refine⟨⟨F,0,none⟩,i,⟨rfl,rfl,bm⟩,_,cr,_,ak 0 _ rfl,Sn.any,(Ip _ _).go λ _=>?_⟩;rw[be]
    conv=>whnf
    intro bn cm;refine Zl cm λ Ud hd ai=>?_;have ai:Zf Ud bn #[.int .i64 (b.fatC i)]:=ai;have a9:=L.trans hd.lg
    conv=>whnf
    refine Wy (v:=.slice ua ul uc) (cs:=((range i).map b.fatC).map λ n=>.int .i64 n) (new:=[.int .i64 (b.fatC i)]) (M₀:=A++Ba) LG rfl rfl (by rw[hd.own,Q];exact K _) (.inr ⟨_,rfl,ai.rd⟩) rfl (by simp[Value.single]) S3 λ v' M' ah _=>?_;have ah:Acc 39 1 v' (((range (i+1)).map b.fatC).map λ n=>.int .i64 n) M' (A++Ba):=by rw[range_succ];simpa using ah
    obtain⟨ce,H,ae⟩:=ah.split;obtain⟨ta,tl,tc,rfl,-⟩:=ae.src;refine⟨a7,?_⟩
    conv=>whnf
    exact⟨rfl,(i+1,.slice ta tl tc),T1,⟨⟨a9.imm,⟨_,(append_nil _).symm⟩,a9.tok⟩,⟨ce,H,ae⟩,by show i+1<=h.cl;omega⟩,L1⟩
   .have hge:i=b.cs.length:=by simp at hc;omega
    subst hge;have K:Jx 39 1 (.slice ua ul uc) (b.fatesC.map λ n=>.int .i64 n) A2:=K;subst aw;refine⟨A2++(A++([.obj l OA,.obj d (.deferred none),.obj P (.cells #[.int .i64 (b.all.length:Nat)] 3 (0,0)),.obj F (.cells (Wj b b.all.length 0).toArray 3 (0,0)),.obj mb (Qt ZH (QH (b.sc b.all.length)))]++U.M)),by rw[Q];exact PJ (PJ (.there .here) _) _,?_⟩
    conv=>whnf
    exact⟨_,_,_,_,rfl,K _,Z _,λ x o hx=>L.imm x o (cv x o hx),L.tok.trans dy⟩
 .exact λ _ _ _ _ _ h=>h.elim
 .exact λ _ _ _ _ h=>h.elim
end Go.Proofs
namespace Go.TM
variable{T:Type}{P:Program}{S:Sys P T}{U:Qa T}
def J0.nil:J0 U (.slice none 0 0) []:=⟨none,0,rfl,rfl,λ i x h=>by simp at h⟩
def BH.zero:BH:=⟨none,0,0,none,0,0⟩
def Bk.askF(b:Bk)(r:Int):Int:=if b.flaw Qu=0 then(if Ws r 0 (b.nr-1)then 0 else 6)else b.flaw Qu
def Bk.askF_ok{b:Bk}{r:Int}(h:b.askF r=0):b.Ok/\0<=r/\r<b.nr:=by
 unfold Bk.askF at h;split at h
 .rename_i h1;split at h
  .rename_i h2;simp only[Ws,Bool.and_eq_true,decide_eq_true_eq]at h2;exact⟨Bk.ok_of h1,O1,O1⟩
  .cases h
 .rename_i h1;exact absurd h h1
end Go.TM
namespace Go.Proofs
open Go.TM
variable{T:Type}{S:TM.Sys prog T}{U:Qa T}
attribute [local irreducible] Qb Zh Wh
def zD(h:BH)(b:Bk)(P:Zp U.frz h b)(hk:WC U):Qb S 14 #[h.v] (λ v U'=>(∃z E,v=.tuple #[z,E,.int .i64 (b.flaw Qu)]/\J0 U'.frz z (if b.flaw Qu=0 then b.fatesR else[])/\J0 U'.frz E (if b.flaw Qu=0 then b.fatesC else[]))/\U.le U') U:=by
 refine Qb.grown (R:=λ v U'=>∃z E,v=.tuple #[z,E,.int .i64 (b.flaw Qu)]/\J0 U' z (if b.flaw Qu=0 then b.fatesR else[])/\J0 U' E (if b.flaw Qu=0 then b.fatesC else[])) (λ v N V T⟨z,E,e,H,I⟩=>⟨z,E,e,H.lg T,I.lg T⟩) (Qb.of (args:=[_]) DU Qe S1 ?_)
 repeat refine⟨rfl,?_⟩
 conv=>whnf
 intro B N w G;have G:Zf N B #[.slice h.ra h.rl h.rc,.slice h.ca h.cl h.cc]:=G;refine⟨_,⟨rfl,G.rd⟩,?_⟩;refine⟨Yf.any,(OY h b ((P.lg w.lg.frz2).lg Qm) (hk.lg w.lg)).go λ _=>?_⟩
 repeat refine⟨rfl,?_⟩
 conv=>whnf
 apply Qd<;>intro Q
 .have F:b.flaw Qu≠0:=by simpa using Q
  repeat refine⟨rfl,?_⟩
  conv=>whnf
  rw[if_neg F,if_neg F];exact⟨⟨_,_,rfl,.nil,.nil⟩,w.lg⟩
 have F:b.flaw Qu=0:=by simpa using Q
 rw[if_pos F,if_pos F,F];refine⟨_,⟨rfl,G.rd⟩,?_⟩;refine⟨SF.any,(FL h b (P.lg w.lg.frz2) (Bk.ok_of F)).mono ?_⟩;rintro _ V⟨⟨z,E,rfl,L,M⟩,K⟩-;obtain⟨W,Y,rfl,H⟩:=L;obtain⟨X,Z,rfl,I⟩:=M
 repeat refine⟨rfl,?_⟩
 conv=>whnf
 exact⟨⟨_,_,rfl,⟨W,Y,rfl,H⟩,⟨X,Z,rfl,I⟩⟩,(w.trans K).lg⟩
def K6(h:BH)(b:Bk)(L:Zp U.frz h b)(X:WC U)(r:Int):Qb S 36 #[h.v,.int .i64 r] (λ v U'=>v=.tuple #[(if b.askF r=0 then h else BH.zero).v,.int .i64 (b.askF r)]/\U'=U) U:=by
 refine Qb.pure' (Qb.of (args:=[_,_]) Vd Qe S1 ?_);have N:=L.rs.1;have T:=L.rl;have M:b.nr=(h.rl:Int):=by unfold Bk.nr;rw[N]
 repeat refine⟨rfl,?_⟩
 conv=>whnf
 intro B V e I;have I:Zf V B #[.slice h.ra h.rl h.rc,.slice h.ca h.cl h.cc]:=I
 conv=>whnf
 intro H F;refine⟨_,.refl _,?_⟩;have E:=I.lg (Z2 H (.cells #[.slice none 0 0,.slice none 0 0] 90));refine⟨_,⟨rfl,E.rd⟩,?_⟩;refine⟨Yf.any,(OY h b (((L.lg e.lg.frz2).lg Qm).lg (Z2 H _)) ((X.lg e.lg).lg (Z2 H _))).go λ _=>?_⟩
 repeat refine⟨rfl,?_⟩
 conv=>whnf
 apply Qd<;>intro Q
 .have G:b.flaw Qu≠0:=by simpa using Q
  have K:b.askF r=b.flaw Qu:=by unfold Bk.askF;rw[if_neg G]
  rw[K,if_neg G];refine⟨rfl,Zu (vs:=[.slice none 0 0,.slice none 0 0]) F rfl (by simp[Value.single]) λ P w z=>?_⟩;refine⟨_,⟨rfl,z.rd⟩,?_⟩
  conv=>whnf
  exact⟨rfl,(e.trans w).lg⟩
 have G:b.flaw Qu=0:=by simpa using Q
 have K:b.askF r=if Ws r 0 ((h.rl:Int)-1)then 0 else 6:=by unfold Bk.askF;rw[if_pos G,M]
 rw[K];refine⟨_,E.sees3 (o:=0) rfl,I1,?_⟩;refine⟨GN.any,(Wz _ _ _ _).go λ _=>?_⟩;cases W:Ws r 0 ((h.rl:Int)-1)with
 |false=>
  refine⟨rfl,Zu (vs:=[.slice none 0 0,.slice none 0 0]) F rfl (by simp[Value.single]) λ P w z=>?_⟩;refine⟨_,⟨rfl,z.rd⟩,?_⟩
  conv=>whnf
  exact⟨rfl,(e.trans w).lg⟩
 |true=>
  refine⟨_,⟨rfl,E.rd⟩,?_⟩;refine⟨rfl,Zu (vs:=[.slice h.ra h.rl h.rc,.slice h.ca h.cl h.cc]) F rfl (by simp[Value.single]) λ P w z=>?_⟩;refine⟨_,⟨rfl,z.rd⟩,?_⟩
  conv=>whnf
  exact⟨rfl,(e.trans w).lg⟩
def V_(h:BH)(b:Bk)(P:Zp U.frz h b)(E:b.Ok)(r:Nat)(Q:r<b.rs.length):Qb S 42 #[h.v,.int .i64 r] (λ v U'=>v=.int .i64 (b.fatR r)/\U'=U) U:=by
 refine Qb.pure' (Qb.of (args:=[_,_]) GM Qe S1 ?_)
 repeat refine⟨rfl,?_⟩
 conv=>whnf
 intro B L e w;have w:Zf L B #[.slice h.ra h.rl h.rc,.slice h.ca h.cl h.cc]:=w;refine⟨_,⟨rfl,w.rd⟩,?_⟩;refine⟨SF.any,(FL h b (P.lg e.lg.frz2) E).mono ?_⟩;rintro _ V⟨⟨v1,v2,rfl,F,G⟩,z⟩-;obtain⟨W,Y,rfl,N⟩:=F;obtain⟨X,Z,rfl,h2⟩:=G;have K:b.fatesR.length=b.rs.length:=by simp[Bk.fatesR]
 obtain⟨M,x,H,rfl,-,T⟩:=N.at (show r<b.fatesR.length by omega)
 have I:x=b.fatR r:=by
  unfold Bk.fatesR at H;rw[getElem?_map,getElem?_range Q]at H;exact(Option.some.inj H).symm
 subst I
 repeat refine⟨rfl,?_⟩
 refine⟨M,r,⟨rfl,rfl,O1⟩,_,T.lg Qm,?_⟩
 repeat refine⟨rfl,?_⟩
 conv=>whnf
 exact(e.trans z).lg
end Go.Proofs
namespace Go.TM
variable{T:Type}{P:Program}{S:Sys P T}{U:Qa T}
def WO(U:Qa T)(v:Value)(l:List Bool):Prop:=∃a cap,v=.slice a l.length cap/\∀(i:Nat)x,l[i]?=some x->∃b,a=some b/\b.spot=none/\U.sees (b.add (i*1)) (.bool x)
def WO.lg{U':Qa T}{v:Value}{l:List Bool}(h:WO U v l)(k:U.lg U'):WO U' v l:=let ⟨a,c,e,h⟩:=h;⟨a,c,e,λ i x b=>let ⟨ad,e',s,r⟩:=h i x b;⟨ad,e',s,r.lg k⟩⟩
def WO.nil:WO U (.slice none 0 0) []:=⟨none,0,rfl,λ i x h=>by simp at h⟩
def kL{a:Option Addr}{l:List Bool}{cap:Nat}(h:Src U a (l.map .bool))(e:∀b,a=some b->b.spot=none):WO U (.slice a l.length cap) l:=by
 refine⟨a,cap,rfl,λ i x z=>?_⟩;rcases h with⟨_,w⟩|⟨b,rfl,B⟩
 .rw[map_eq_nil_iff]at w;subst w;simp at z
 .exact⟨b,rfl,e b rfl,by rw[Nat.mul_one];exact B i _ (by simp[z])⟩
def Zf.bools{b:Nat}{c:Array Value}{l:List Bool}{cap:Nat}(h:Zf U b c)(e:∀(i:Nat)(x:Bool),l[i]?=some x->c[i]?=some (.bool x)):WO U (.slice (some ⟨b,0,none⟩) l.length cap) l:=
 ⟨_,_,rfl,λ i x w=>⟨_,rfl,rfl,by rw[Nat.mul_one,Qp];exact h.sees (by rw[Nat.zero_add];exact e i x w)⟩⟩
def Bk.ordL_cons(b:Bk)(o:List Nat)(i:Int)(l:List Int):b.ordL o (i::l)=if Ws i 0 (b.nc-1)then(if i.toNat∈o then 5 else if(Jg b.A i.toNat).all (λ k=>o.contains k)then b.ordL (o++[i.toNat]) l else 7)else 6:=rfl
def Bk.outF(b:Bk)(l:List Int):Int:=if b.flaw Qu=0 then b.ordF l else b.flaw Qu
def pj(w:List Bool):((range w.length).map λ k=>Value.bool ((J4 w).testBit k))=w.map .bool:=by
 apply ext_getElem?;intro i;rw[getElem?_map,getElem?_map];by_cases h:i<w.length
 .rw[getElem?_range h,getElem?_eq_getElem h];simp[Vm,getD_eq_getElem?_getD,getElem?_eq_getElem h]
 .rw[getElem?_eq_none S3,getElem?_eq_none O1];rfl
def Qb.lists2g{f:FuncId}{args:Array Value}{e:Nat}{cs:List Value}{R:Value->Qa T->Prop}{rest:List Value}(V:∀v H K,H.lg K->R v H->R v K)
  (h:Qb S f args (λ v U'=>∃w G A,v=.tuple (w::G::rest).toArray/\R w U'.frz/\Acc e 1 G cs U'.M (A++U.M)/\(∀x N,U.I x=some N->U'.I x=some N)/\U'.tok=U.tok) U) :
  Qb S f args (λ v U'=>(∃w a len cap,v=.tuple (w::.slice a len cap::rest).toArray/\R w U'.frz/\cs.length=len/\Src U'.frz a cs/\∀L,a=some L->L.spot=none)/\U.le U') U:=by
 refine h.sep λ v U' W⟨w,G,A,Y,P,E,Q,X⟩=>?_;obtain⟨M',b,E⟩:=E.letgo;obtain⟨U'',k1,B,a,len,cap,rfl,hl,z,F,_⟩:=E.freeze (U:={ U' with M:=U.M }) (U':={ U' with M:=M' }) (W.sublist b) (λ _ _ h=>h) rfl;have Z:U'.frz.lg U''.frz:=⟨B.imm,⟨[],rfl⟩,B.tok⟩;exact⟨U'',(Z5 b).trans k1,⟨w,a,len,cap,Y,V _ _ _ Z P,O1,z,F⟩,⟨λ x o h=>B.imm x o (Q x o h),B.own,B.tok.trans X⟩⟩
end Go.TM
namespace Go.Proofs
open Go.TM
variable{T:Type}{S:TM.Sys prog T}{U:Qa T}
attribute [local irreducible] Qb Zh Wh
set_option maxHeartbeats 1000000 in
def Fv(h:BH)(b:Bk)(hb:Zp U.frz h b)(hk:WC U)(a:Option Addr)(len cap:Nat)(l:List Int)(hl:Z0 U.frz a len l)(cx:len<2^60) :
  Qb S 15 #[h.v,.slice a len cap] (λ v U'=>(∃v1 v2,v=.tuple #[v1,v2,.int .i64 (b.outF l)]/\WO U'.frz v1 (if b.outF l=0 then(b.ends (l.map Int.toNat)).1 else[])/\WO U'.frz v2 (if b.outF l=0 then(b.ends (l.map Int.toNat)).2 else[]))/\U.le U') U:=by
 refine(Qb.lists2g (e:=4) (cs:=(if b.outF l=0 then(b.ends (l.map Int.toNat)).2 else[]).map .bool) (R:=λ v U'=>WO U' v (if b.outF l=0 then(b.ends (l.map Int.toNat)).1 else[])) (rest:=[.int .i64 (b.outF l)]) (λ v U1 U2 hl h=>h.lg hl) (Qb.of (args:=[_,_]) Sv Qe S1 ?_)).post λ v U'⟨⟨v1,a,len,cap,e,h1,h2,h3,h4⟩,H⟩=>⟨U',.refl _,⟨v1,_,e,h1,by rw[length_map]at h2;rw[<- h2];exact kL h3 h4⟩,H⟩;have cg:=hb.cs.1;have c3:=hb.rs.1;have c1:=hl.1
 repeat refine⟨rfl,?_⟩
 conv=>whnf
 intro B U1 L hB;have hB:Zf U1 B #[.slice h.ra h.rl h.rc,.slice h.ca h.cl h.cc]:=hB;refine⟨_,⟨rfl,hB.rd⟩,?_⟩;refine⟨Yf.any,(OY h b ((hb.lg L.lg.frz2).lg Qm) (hk.lg L.lg)).go λ _=>?_⟩
 repeat refine⟨rfl,?_⟩
 conv=>whnf
 apply Qd<;>intro hc
 .have hf:b.flaw Qu≠0:=by simpa using hc
  have hF:b.outF l=b.flaw Qu:=by unfold Bk.outF;rw[if_neg hf]
  rw[hF,if_neg hf,if_neg hf]
  repeat refine⟨rfl,?_⟩
  conv=>whnf
  exact⟨_,_,[],rfl,.nil,by rw[L.own];exact .nil,L.imm,L.tok⟩
 have hf:b.flaw Qu=0:=by simpa using hc
 have hF:b.outF l=b.ordF l:=by unfold Bk.outF;rw[if_pos hf]
 have ap:=Bk.ok_of hf;have c2:=ap.nc;have ct:=ap.nr;rw[hF];refine⟨_,hB.sees3 (o:=1) rfl,?_⟩
 repeat refine⟨rfl,?_⟩
 conv=>whnf
 apply Qd<;>intro hc
 .have hne:l.length≠b.cs.length:=by simp at hc;omega
  have a7:b.ordF l=2:=by unfold Bk.ordF;rw[if_pos hne]
  rw[a7]
  repeat refine⟨rfl,?_⟩
  conv=>whnf
  exact⟨_,_,[],rfl,.nil,by rw[L.own];exact .nil,L.imm,L.tok⟩
 have cz:l.length=b.cs.length:=by simp at hc;omega
 have a7:b.ordF l=b.ordL [] l:=by unfold Bk.ordF;rw[if_neg O1]
 rw[a7];refine⟨_,⟨rfl,hB.rd⟩,?_⟩
 conv=>whnf
 intro b8 ck;refine⟨_,.refl _,rfl,Zu (vs:=[.slice h.ra h.rl h.rc,.slice h.ca h.cl h.cc]) ck rfl (by simp[Value.single]) λ U2 bg bi=>?_⟩;have z:=L.trans bg;refine⟨_,⟨rfl,bi.rd⟩,?_⟩;refine⟨SG.any,(Im h b ((hb.lg z.lg.frz2).lg Qm) ct).go λ _=>?_⟩;have cu:J4 b.ini.2=0:=DQ _
 conv=>whnf
 intro b9 c0;refine⟨_,.refl _,rfl,Gd (vs:=QT (.slice none 0 0) (W8 b.ini.1) 0) rfl (by simp[QT,Value.single]) ?_⟩;have b1:Zf U2 B #[.slice h.ra h.rl h.rc,.slice h.ca h.cl h.cc]:=hB.le bg;have ah:U.frz.lg U2.frz:=z.lg.frz2
 refine⟨Nat×Option Addr×Nat,λ y=>[(1,.slice a len cap),(2,.pointer (some ⟨B,0,none⟩)),(8,.pointer (some ⟨b8,0,none⟩)),(9,.pointer (some ⟨b9,0,none⟩)),(28,.slice a len cap),(29,.int .i64 len),(30,.int .i64 y.1)],
  λ y U'=>U2.frz.lg U'/\U'.M=.obj b9 (.cells (QT (.slice y.2.1 y.1 y.2.2) (W8 (b.ends ((l.take y.1).map Int.toNat)).1) (J4 (b.ends ((l.take y.1).map Int.toNat)).2)).toArray 106 (0,0))::U.M/\y.1<=len/\Z0 U'.frz y.2.1 y.1 (((l.take y.1).map Int.toNat).map λ(k:Nat)=>(k:Int))/\y.1<=y.2.2/\(∀ad,y.2.1=some ad->ad.spot=none)/\(∀k∈(l.take y.1).map Int.toNat,k<b.cs.length)/\b.ordL [] l=b.ordL ((l.take y.1).map Int.toNat) (l.drop y.1),
  λ y=>len-y.1,(0,none,0),T1,⟨⟨λ _ _ h=>h,⟨_,(append_nil _).symm⟩,rfl⟩,?_,O1,⟨rfl,λ i x K=>by simp at K⟩,Nat.le_refl _,S1,S1,rfl⟩,?_⟩
 .show _::U2.M=_;rw[z.own];show _=Qw.obj b9 (.cells (QT (.slice none 0 0) (W8 b.ini.1) (J4 b.ini.2)).toArray 106 (0,0))::U.M;rw[cu]
 rintro⟨i,xa,xc⟩f U3⟨Q,hM,hi,am,bt,bu,V,w⟩;simp only at hM hi am bt bu V w;have co:Ze ((i:Int)+1):=I1
 have an:Zf U3 B #[.slice h.ra h.rl h.rc,.slice h.ca h.cl h.cc]:=b1.imI Q.imm;have bj:Zf U3 b8 #[.slice h.ra h.rl h.rc,.slice h.ca h.cl h.cc]:=bi.imI Q.imm;have ae:=Q9 [] hM;have ak:((l.take i).map Int.toNat).length=i:=by rw[length_map,length_take];omega
 have bd:∀n∈((l.take i).map Int.toNat).map (λ(k:Nat)=>(k:Int)),0<=n/\n<60:=by
  intro n hn;obtain⟨k,hk,rfl⟩:=mem_map.1 hn;have:=V k hk;omega
 repeat refine⟨rfl,?_⟩
 conv=>whnf
 apply Qd<;>intro hc
 .have hlt:i<len:=by simpa using hc
  obtain⟨ad,n,K,rfl,c4,hs⟩:=((hl.lg (ah.trans Q.frz2)).lg Qm).at hlt;rw[Ww K,b.ordL_cons]at w;refine⟨ad,i,⟨rfl,rfl,hlt⟩,_,hs,_,an.sees3 (o:=1) rfl,I1,?_⟩;refine⟨GN.any,(Wz _ _ _ _).go λ _=>?_⟩;have bo:b.nc=(h.cl:Int):=by unfold Bk.nc;rw[cg]
  rw[bo]at w
  have bad:∀(ab:Qa T)(F:Int),U3.le ab->F≠0->b.ordL [] l=F->∃v1 v2 A,Value.tuple #[.slice none 0 0,.slice none 0 0,.int .i64 F]=.tuple (v1::v2::[Value.int .i64 (b.ordL [] l)]).toArray/\WO ab.frz v1 (if b.ordL [] l=0 then(b.ends (l.map Int.toNat)).1 else[])/\Acc 4 1 v2 ((if b.ordL [] l=0 then(b.ends (l.map Int.toNat)).2 else[]).map .bool) ab.M (A++U.M)/\(∀x ox,U.I x=some ox->ab.I x=some ox)/\ab.tok=U.tok:=by
   intro ab F h3 h0 e;rw[e,if_neg h0,if_neg h0];exact⟨_,_,[_],rfl,.nil,by rw[h3.own,hM];exact .nil,λ x o K=>h3.imm x o (Q.imm x o (z.imm x o K)),h3.tok.trans (Q.tok.trans z.tok)⟩
  cases a8:Ws n 0 ((h.cl:Int)-1)with
  |false=>
   rw[a8]at w;have:=bad _ 6 (.refl _) D1 w
   repeat refine⟨rfl,?_⟩
   conv=>whnf
   exact this
  |true=>
  rw[if_pos a8]at w
  have cr:0<=n/\n<h.cl:=by
   simp only[Ws,Bool.and_eq_true,decide_eq_true_eq]at a8;omega
  obtain⟨k,rfl⟩:=Int.eq_ofNat_of_zero_le cr.1;rw[Int.toNat_natCast]at w;have bl:k<h.cl:=O1
  have a9:(((l.take i).map Int.toNat).map λ(k:Nat)=>(k:Int)).contains (k:Int)=decide (k∈(l.take i).map Int.toNat):=by
   rw[Bool.eq_iff_iff,contains_iff_mem,decide_eq_true_eq,mem_map];constructor
   .rintro⟨k',h1,h2⟩
    rwa [<- Int.ofNat.inj h2]
   .exact λ h=>⟨k,h,rfl⟩
  refine⟨_,ae.cell (i:=0) rfl,Y5.any,(OW xa i xc _ (am.lg Qm) O1 (k:Int)).go λ _=>?_⟩;rw[a9];by_cases Z:k∈(l.take i).map Int.toNat
  .rw[if_pos Z]at w;rw[decide_eq_true Z];have:=bad _ 5 (.refl _) D1 w
   repeat refine⟨rfl,?_⟩
   conv=>whnf
   exact this
  rw[if_neg Z]at w;rw[decide_eq_false Z];obtain⟨b0,c,ga,gl,gc,aa,al,ac,ch,cj,cy,bq,-,-,ha,b3,bm⟩:=(hb.lg (ah.trans Q)).case bl;have W:=ap.toLow.lt bm;have b4:=Bk.aft1_at ch;have ao:=λ U'(H:U3.le U')=>Je (S:=S) (U:=U') aa al ac c.af (ha.lg H.lg) b3 W;have P:=Je (S:=S) (U:=U3) xa i xc _ (am.lg Qm) O1 bd;rw[TZ]at P;have b6:Jb (c.af.map Int.toNat)<2^60:=HF (toNat_lt W);have ce:Jb ((l.take i).map Int.toNat)<2^60:=HF λ x K=>by have:=V x K;omega
  have key:_↔(Jg b.A k).all (λ k=>(Jb ((l.take i).map Int.toNat)).testBit k)=true:=(D6 b6 ce).trans ((D5 W).trans (by rw[b4]))
  have bz:(Jg b.A k).all (λ j=>(Jb ((l.take i).map Int.toNat)).testBit j)=(Jg b.A k).all λ j=>((l.take i).map Int.toNat).contains j:=by
   congr 1;funext j;exact W5 _ j
  rw[bz]at key;refine⟨_,an.sees3 (o:=1) rfl,b0,k,⟨cj,rfl,bl⟩,_,bq.cell (i:=3) rfl,.int .i64 (Jb (c.af.map Int.toNat):Nat),λ U' H _=>?_,?_⟩
  .refine⟨Hb.any,(ao U' H).mono ?_⟩;rintro _ U''⟨rfl,hU⟩-;exact⟨rfl,_,.refl _,hU▸.refl _⟩
  refine⟨_,ae.cell (i:=0) rfl,?_⟩
  conv=>whnf
  intro U4 G _;have ai:=Q.trans G.lg;have be:=G.own.trans hM;have bp:=Q9 [] be
  conv=>whnf
  have P:=Je (S:=S) (U:=U4) xa i xc _ ((am.lg G.lg.frz2).lg Qm) O1 bd;rw[TZ]at P;refine⟨Hb.any,P.go λ _=>?_⟩
  repeat refine⟨rfl,?_⟩
  conv=>whnf
  apply Qd<;>intro hc
  .have hno:(Jg b.A k).all (λ j=>((l.take i).map Int.toNat).contains j)=false:=by
    cases hh:(Jg b.A k).all (λ j=>((l.take i).map Int.toNat).contains j)with
    |false=>rfl
    |true=>exact absurd (key.2 hh) (bne_iff_ne.1 hc)
   rw[hno]at w;have:=bad _ 7 G D1 w
   repeat refine⟨rfl,?_⟩
   conv=>whnf
   exact this
  have bw:(Jg b.A k).all (λ j=>((l.take i).map Int.toNat).contains j)=true:=key.1 (bne_eq_false_iff_eq.1 hc);rw[if_pos bw]at w;have E:=b.ends_len ((l.take i).map Int.toNat);have b2:Zf U4 b8 #[.slice h.ra h.rl h.rc,.slice h.ca h.cl h.cc]:=bj.le G;have bb:(l.take (i+1)).map Int.toNat=(l.take i).map Int.toNat++[k]:=by rw[Z3 K,map_append];rfl
  have cw:i<5:=O1
  have aw:=FI (S:=S) (U:=U4) h b ((hb.lg (ah.trans ai.frz2)).lg Qm) ap xa xc ((l.take i).map Int.toNat) (b.ends ((l.take i).map Int.toNat)) (by rw[ak];exact(am.lg G.lg.frz2).lg Qm) bu (by rw[ak];exact bt) (by rw[ak];omega) E.1 E.2 k O1;rw[ak,<- b.ends_snoc,<- bb]at aw;refine⟨_,⟨rfl,b2.rd⟩,?_⟩;refine⟨_,⟨rfl,bp⟩,SH.any,aw.mono ?_⟩;rintro _ U5⟨⟨a',c',rfl,a6,a0,bv⟩,bh⟩-;have aj:=ai.trans bh.lg;have bf:=bh.own.trans be;have ax:((l.take (i+1)).map Int.toNat).length=i+1:=by rw[length_map,length_take];omega
  rw[ax]at a6 a0;refine⟨rfl,Jt (vs:=QT (.slice a' ((l.take (i+1)).map Int.toNat).length c') (W8 (b.ends ((l.take (i+1)).map Int.toNat)).1) (J4 (b.ends ((l.take (i+1)).map Int.toNat)).2)) [] bf rfl (by simp[QT,Value.single]) λ U6 au az av=>?_⟩;rw[ax]at av;have ba:U2.frz.lg U6:=⟨λ x o K=>by rw[au];exact aj.imm x o K,⟨_,(append_nil _).symm⟩,az.trans aj.tok⟩;have bx:U5.frz.lg U6.frz:=⟨λ x o K=>by show U6.I x=_;rw[au];exact K,⟨[],rfl⟩,az⟩;refine⟨co,rfl,(i+1,a',c'),T1,⟨ba,av,by show i+1<=len;omega,a6.lg bx,a0,bv,?_,by rw[bb];exact w⟩,L1⟩;intro x ag;rw[bb,mem_append]at ag;rcases ag with ag|ag
  .exact V x ag
  .rw[mem_singleton.1 ag];omega
 .have hge:i=l.length:=by simp at hc;omega
  subst hge;rw[drop_length]at w;have hz:b.ordL [] l=0:=w;rw[take_length]at hM ae ak V;rw[hz,if_pos rfl,if_pos rfl];have E:=b.ends_len (l.map Int.toNat);generalize b.ends (l.map Int.toNat)=e at hM ae E;obtain⟨e1,e2⟩:=e;simp only at hM ae E;obtain⟨h1,h2⟩:=E;have bs:J4 e2<2^60:=Nat.lt_trans (OT e2 (m:=5) O1) D1;refine⟨_,an.sees3 (o:=0) rfl,_,ae.cell (i:=7) rfl,_,an.sees3 (o:=1) rfl,?_⟩
  conv=>whnf
  obtain⟨eT,cv,a1,a2,a3,a4,a5⟩:=TO.h;refine⟨λ v U'=>v=.slice (some ⟨b9,1,none⟩) h.rl 6,λ v _ _ X _=>X,λ U' H hC=>?_,λ v X=>?_⟩
  .conv=>whnf
   refine Ru (b:=b9) (o:=1) (n:=h.rl) (N:=6) a1 a3 rfl rfl O1 ?_;exact⟨_,.refl _,rfl,.refl _⟩
  obtain⟨_,-,-,rfl⟩:=X;refine⟨λ v U'=>WO U'.frz v e1,λ v U1 U2 X H=>X.lg H.lg.frz2,λ U' H hC=>?_,λ v X=>?_⟩
  .have hrd':=Q9 [] (H.own.trans hM)
   have br:Src U' (some ⟨b9,1,none⟩) (e1.map .bool):=.inr ⟨_,rfl,λ i v X=>by
    rw[getElem?_map]at X;cases K:e1[i]? with
    |none=>rw[K]at X;cases X
    |some x=>
     rw[K]at X;cases X;have bk:i<6:=by have:=(List.getElem?_eq_some_iff.1 K).1;omega
     have h3:(QN (W8 e1))[i]?=some (.bool x):=by
      rw[OQ _ bk];simp[W8,getD_eq_getElem?_getD,K]
     have h4:=hrd' (1+i) (.bool x) (by
      rcases GG bk with rfl|rfl|rfl|rfl|rfl|rfl <;> exact h3)
     rw[Qp]at h4 ⊢
     rwa [Nat.zero_add]at h4⟩
   conv=>whnf
   refine Fc (sa:=none) (sl:=0) (cs:=[]) (new:=e1.map .bool) LF rfl rfl (.inl ⟨rfl,rfl⟩) rfl br (by rw[length_map];omega) (by rw[length_map,length_nil];omega) (λ h0=>?_) (λ _ bn cn bc cm cq c5 cf=>?_)
   .have:e1=[]:=by simpa using h0
    subst this;exact⟨_,.refl _,.nil,.refl _⟩
   .refine Zl cm λ U1 cp b7=>⟨?_,cp⟩;have b5:Zf U1.frz bn cn:=b7;have:=b5.bools (l:=e1) (cap:=bc) (λ i x K=>cf i _ (by simp[K]));rw[Nat.zero_add,show h.rl=e1.length by omega];exact this
  obtain⟨_,-,-,va,vc,rfl,-⟩:=X
  conv=>whnf
  intro U4 G hC;obtain⟨-,X⟩:=hC;refine⟨Ej.any,(zL (J4 e2) h.cl bs O1).mono ?_⟩;rintro v U5⟨Y,aq,ay⟩-;rw[show h.cl=e2.length by omega,pj]at Y;obtain⟨ta,tl,tc,rfl,-,-⟩:=Acc.src (U:=U5) Y;rw[G.own,hM]at Y
  repeat refine⟨rfl,?_⟩
  conv=>whnf
  exact⟨_,_,[_],rfl,X.lg ⟨aq,⟨[],rfl⟩,ay⟩,Y,λ x o K=>aq x o (G.imm x o (Q.imm x o (z.imm x o K))),ay.trans (G.tok.trans (Q.tok.trans z.tok))⟩
end Go.Proofs
namespace Go.TM
variable{T:Type}{P:Program}{S:Sys P T}{U:Qa T}
def Qa.on_of{A D:Qw}{M:List Qw}(h:U.M=A::D::M):U=({ U with M:=M }:Qa T).on A D:=by
 obtain⟨i,m,t⟩:=U;simp only[Qa.on]at h ⊢;rw[h]
def Bk.dfO(b:Bk)(r k:Nat)(w:Bool):Option (List Nat):=(b.all.take k).find? λ o=>(b.ends o).1.getD r false==w
def Bk.dfO_succ{b:Bk}{r k:Nat}{w:Bool}{o:List Nat}(h:b.all[k]?=some o):b.dfO r (k+1) w=(b.dfO r k w).or (if(b.ends o).1.getD r false==w then some o else none):=by
 unfold Bk.dfO;rw[Z3 h,find?_append,find?_singleton]
def Bk.dfO_end(b:Bk)(r:Nat)(w:Bool):(b.dfO r b.all.length w).getD []=b.difS r w:=by unfold Bk.dfO Bk.difS;rw[take_length]
def QP(o:Option (List Nat)):List Int:=(o.getD []).map λ(k:Nat)=>(k:Int)
end Go.TM
namespace Go.Proofs
open Go.TM
variable{T:Type}{S:TM.Sys prog T}{U:Qa T}
attribute [local irreducible] Qb Zh Wh
set_option maxHeartbeats 1000000 in
def qY(h:BH)(b:Bk)(hb:Zp U.frz h b)(hk:WC U)(r:Int) :
  Qb S 21 #[h.v,.int .i64 r] (λ v U'=>(∃v1 v2,v=.tuple #[v1,v2,.int .i64 (b.askF r)]/\J0 U'.frz v1 (if b.askF r=0 then(b.difS r.toNat true).map λ(k:Nat)=>(k:Int)else[])/\J0 U'.frz v2 (if b.askF r=0 then(b.difS r.toNat false).map λ(k:Nat)=>(k:Int)else[]))/\U.le U') U:=by
 refine Qb.grown (R:=λ v U'=>∃v1 v2,v=.tuple #[v1,v2,.int .i64 (b.askF r)]/\J0 U' v1 (if b.askF r=0 then(b.difS r.toNat true).map λ(k:Nat)=>(k:Int)else[])/\J0 U' v2 (if b.askF r=0 then(b.difS r.toNat false).map λ(k:Nat)=>(k:Int)else[])) (λ v U1 U2 W⟨v1,v2,e,h1,h2⟩=>⟨v1,v2,e,h1.lg W,h2.lg W⟩) (Qb.of (args:=[_,_]) DZ Qe S1 ?_);have br:=hb.rs.1
 repeat refine⟨rfl,?_⟩
 conv=>whnf
 intro B U1 bf hB;have hB:Zf U1 B #[.slice h.ra h.rl h.rc,.slice h.ca h.cl h.cc]:=hB
 conv=>whnf
 intro b3 U2 a8 ae;have ae:Zf U2 b3 #[.int .i64 r]:=ae
 conv=>whnf
 intro b4 bn;refine⟨_,.refl _,?_⟩
 conv=>whnf
 intro b5 bo;refine⟨_,.refl _,?_⟩;have z:=bf.trans a8;have N:U2.lg ((U2.put b4 (.cells #[.slice none 0 0] 22)).put b5 (.cells #[.slice none 0 0] 22)):=(Z2 b4 _).trans (Z2 b5 _);refine⟨_,⟨rfl,((hB.le a8).lg N).rd⟩,?_⟩;refine⟨_,(ae.lg N).sees3 (o:=0) rfl,Vd.any,(K6 h b (hb.lg (z.lg.frz2.trans N.frz2)) (hk.lg (z.lg.trans N)) r).go λ _=>?_⟩;by_cases hF:b.askF r=0
 .rw[hF,if_pos rfl,if_pos rfl,if_pos rfl];obtain⟨bc,bi,bl⟩:=Bk.askF_ok hF;obtain⟨q,rfl⟩:=Int.eq_ofNat_of_zero_le bi;rw[Int.toNat_natCast];have bq:=bc.nr;have af:q<6:=by unfold Bk.nr at bl;omega
  conv=>whnf
  intro b7 au;refine⟨_,.refl _,rfl,Zu (vs:=[.slice h.ra h.rl h.rc,.slice h.ca h.cl h.cc]) au rfl (by simp[Value.single]) λ U3 P a9=>?_⟩
  repeat refine⟨rfl,?_⟩
  conv=>whnf
  intro b8 bg;refine⟨_,.refl _,?_⟩;have Q:=Z2 (U:=U3) b8 (.cells #[.bool false,.bool false] 122);refine⟨_,⟨rfl,(a9.lg Q).rd⟩,?_⟩;refine⟨Si.any,(F_ h b ((hb.lg (z.lg.frz2.trans (N.frz2.trans (P.lg.frz2.trans Q.frz2)))).lg Qm)).mono ?_⟩;rintro _ U4⟨⟨B',rfl,a2⟩,ak⟩-;have ax:U.frz.lg U4.frz:=z.lg.frz2.trans (N.frz2.trans (P.lg.frz2.trans (Q.frz2.trans ak.lg.frz2)));have ae:Zf U4 b3 #[.int .i64 (q:Int)]:=ae.lg (N.trans (P.lg.trans (Q.trans ak.lg)))
  have az:U4.M=.obj b8 (.cells #[.bool (b.dfO q 0 true).isSome,.bool (b.dfO q 0 false).isSome] 122 (0,0))::.obj b5 (.cells #[.slice none 0 0] 22 (0,0))::.obj b4 (.cells #[.slice none 0 0] 22 (0,0))::U.M:=by
   rw[ak.own];show _::U3.M=_;rw[P.own];show _::_::_::U2.M=_;rw[z.own];rfl
  have bh:∀l U5,U4.frz.lg U5->Oi S 83 #[.func (.yield l) #[] #[],.pointer (some ⟨B',0,none⟩)] l b.all.length (Pc b) U5:=λ l U5 W=>FA h b (hb.lg (ax.trans W.frz2)) bc (a2.imI W.imm);have a1:U4.tok=U.tok:=ak.tok.trans (Q.tok.trans (P.tok.trans (N.tok.trans z.tok)));clear a2 Q ak P au bg N
  conv=>whnf
  let Inv:Nat->Qa T->Prop:=λ k U'=>U4.frz.lg U'/\∃v4 v5,U'.M=.obj b8 (.cells #[.bool (b.dfO q k true).isSome,.bool (b.dfO q k false).isSome] 122 (0,0))::.obj b5 (.cells #[v5] 22 (0,0))::.obj b4 (.cells #[v4] 22 (0,0))::U.M/\J0 U'.frz v4 (QP (b.dfO q k true))/\J0 U'.frz v5 (QP (b.dfO q k false))
  refine Mb Qe b.all.length (Pc b) Inv (λ _ _=>False) (λ _=>False) rfl rfl So.any bh ?_ ?_ ⟨Qm,_,_,az,.nil,.nil⟩ ?_ ?_ ?_ ?_
  .rintro k p U' ⟨o,v,-,rfl,-⟩;rfl
  .rintro k U' U'' H ⟨W,v4,v5,hM,h4,h5⟩;exact⟨Dm W H,v4,v5,H.own.trans hM,h4.lg H.lg.frz2,h5.lg H.lg.frz2⟩
  .rintro l A' Bd D k p U₀ KN KX KR KA hk' ⟨o,v,ho,rfl,a,cap,rfl,hio,hcap,hsp⟩ ⟨W,v4,v5,hM,h4,h5⟩ hKN hKX hKR hKA;obtain⟨a4,c4,rfl,h4⟩:=h4;obtain⟨a5,c5,rfl,h5⟩:=h5
   conv=>whnf
   intro b9 bb;refine⟨_,.refl _,rfl,Zu (vs:=QT (.slice a o.length cap) (W8 (b.ends o).1) (J4 (b.ends o).2)) bb rfl (by simp[QT,Value.single]) λ U5 aq aw=>?_⟩
   conv=>whnf
   rw[Qa.on_of (aq.own:U5.M=A'::D::U₀.M)];refine hKA _ _ ?_;have V:(({ U5 with M:=U₀.M }:Qa T).on Bd D).M=[Bd,D]++(.obj b8 (.cells #[.bool (b.dfO q k true).isSome,.bool (b.dfO q k false).isSome] 122 (0,0))::.obj b5 (.cells #[.slice a5 (QP (b.dfO q k false)).length c5] 22 (0,0))::.obj b4 (.cells #[.slice a4 (QP (b.dfO q k true)).length c4] 22 (0,0))::U.M):=by show Bd::D::U₀.M=_;rw[hM];rfl
   have E:U₀.frz.lg (({ U5 with M:=U₀.M }:Qa T).on Bd D):=⟨λ x o h=>aq.imm x o h,⟨_,(append_nil _).symm⟩,aq.tok⟩;have ba:Zf (({ U5 with M:=U₀.M }:Qa T).on Bd D) b9 (QT (.slice a o.length cap) (W8 (b.ends o).1) (J4 (b.ends o).2)).toArray:=aw;generalize(({ U5 with M:=U₀.M }:Qa T).on Bd D)=U6 at V E ba ⊢;clear aq aw bb;have ac:Zf U6 b3 #[.int .i64 (q:Int)]:=ae.imI λ x o h=>E.imm x o (W.imm x o h)
   have bm:(QT (.slice a o.length cap) (W8 (b.ends o).1) (J4 (b.ends o).2))[1+q]?=some (.bool ((b.ends o).1.getD q false)):=by
    have:=OQ (W8 (b.ends o).1) af;rcases GG af with rfl|rfl|rfl|rfl|rfl|rfl <;> exact this
   have am:Z6 U6 ⟨b9,0,none⟩ (QT (.slice a o.length cap) (W8 (b.ends o).1) (J4 (b.ends o).2)):=ba.reads λ k v hv=>by simpa using hv
   have av:U6.sees (((Addr.mk b9 0 none).add 1).add (q*1)) (.bool ((b.ends o).1.getD q false)):=by
    have:=am (1+q) _ bm;rw[Qp]at this;rw[Qp,Qp,Nat.mul_one]
    rwa [Nat.zero_add]at this ⊢
   have F:=b.dfO_succ (r:=q) (w:=true) ho;have G:=b.dfO_succ (r:=q) (w:=false) ho;have bd:J0 U6.frz (.slice a o.length cap) (o.map λ(k:Nat)=>(k:Int)):=⟨a,cap,S1,by rw[length_map];exact hio.lg E.frz2⟩;have h4:J0 U6.frz (.slice a4 (QP (b.dfO q k true)).length c4) (QP (b.dfO q k true)):=⟨a4,c4,rfl,h4.lg E.frz2⟩;have h5:J0 U6.frz (.slice a5 (QP (b.dfO q k false)).length c5) (QP (b.dfO q k false)):=⟨a5,c5,rfl,h5.lg E.frz2⟩;have Z:=Q9 [Bd,D] V;have bp:U4.frz.lg U6.frz:=W.frz2.trans E.frz2
   have same:∀(ay:Zq T)ap ao,(∀ap ao U3,U₀.frz.lg U3->Inv (k+1) U3->ay ap ao (U3.on Bd D))->b.dfO q (k+1) true=b.dfO q k true->b.dfO q (k+1) false=b.dfO q k false->ay ap ao U6:=by
    intro ay ap ao hK e1 e2;rw[Qa.on_of (V:U6.M=Bd::D::(.obj b8 (.cells #[.bool (b.dfO q k true).isSome,.bool (b.dfO q k false).isSome] 122 (0,0))::.obj b5 (.cells #[.slice a5 (QP (b.dfO q k false)).length c5] 22 (0,0))::.obj b4 (.cells #[.slice a4 (QP (b.dfO q k true)).length c4] 22 (0,0))::U.M))];refine hK _ _ _ ⟨E.imm,⟨_,(append_nil _).symm⟩,E.tok⟩ ⟨⟨λ x o h=>E.imm x o (W.imm x o h),⟨_,(append_nil _).symm⟩,E.tok.trans W.tok⟩,.slice a4 (QP (b.dfO q k true)).length c4,.slice a5 (QP (b.dfO q k false)).length c5,?_,?_,?_⟩
    .rw[e1,e2];rfl
    .rw[e1];exact h4
    .rw[e2];exact h5
   refine⟨_,ac.sees3 (o:=0) rfl,q,⟨rfl,af⟩,_,av,?_⟩;cases hs:(b.ends o).1.getD q false with
   |true=>
    rw[hs]at F G;cases e4:b.dfO q k true with
    |none=>
     rw[e4]at F;simp at F G;rw[e4]at V Z;refine⟨0,⟨rfl,O1⟩,_,Z 0 _ rfl,?_⟩
     repeat refine⟨rfl,?_⟩
     refine⟨_,am 0 _ rfl,rfl,Jt (vs:=[.slice a o.length cap]) [Bd,D,_,_] V rfl (by simp[Value.single]) λ U7 K L Y=>?_⟩;refine⟨0,⟨rfl,O1⟩,rfl,WQ (i:=0) (v:=.bool true) [Bd,D] Y (by show 0<2;omega) rfl λ U8 X aa aj=>?_⟩;have hz:U6.frz.lg U8.frz:=⟨λ x o hx=>by show U8.I x=_;rw[X,K];exact hx,⟨[],rfl⟩,aa.trans L⟩;have ag:∀x o,U₀.I x=some o->U8.I x=some o:=λ x o hx=>by rw[X,K];exact E.imm x o hx
     have an:U8.tok=U₀.tok:=by rw[aa,L];exact E.tok
     conv=>whnf
     rw[Qa.on_of (aj:U8.M=Bd::D::(.obj b8 (.cells #[.bool true,.bool (b.dfO q k false).isSome] 122 (0,0))::.obj b5 (.cells #[.slice a5 (QP (b.dfO q k false)).length c5] 22 (0,0))::.obj b4 (.cells #[.slice a o.length cap] 22 (0,0))::U.M))];refine hKN _ _ _ ⟨ag,⟨_,(append_nil _).symm⟩,an⟩ ⟨⟨λ x o h=>ag x o (W.imm x o h),⟨_,(append_nil _).symm⟩,an.trans W.tok⟩,.slice a o.length cap,.slice a5 (QP (b.dfO q k false)).length c5,?_,?_,?_⟩
     .rw[F,G];rfl
     .rw[F];exact bd.lg hz
     .rw[G];exact h5.lg hz
    |some o'=>
     rw[e4]at F;simp at F G;have al:=same KN;rw[e4]at V Z;refine⟨0,⟨rfl,O1⟩,_,Z 0 _ rfl,?_⟩
     repeat refine⟨rfl,?_⟩
     refine⟨_,ac.sees3 (o:=0) rfl,q,⟨rfl,af⟩,_,av,?_⟩;rw[hs]
     repeat refine⟨rfl,?_⟩
     conv=>whnf
     exact al _ _ hKN (by rw[F,e4]) G
   |false=>
    rw[hs]at F G;cases e5:b.dfO q k false with
    |none=>
     rw[e5]at G;simp at F G;rw[e5]at V Z
     repeat refine⟨rfl,?_⟩
     refine⟨_,ac.sees3 (o:=0) rfl,q,⟨rfl,af⟩,_,av,?_⟩;rw[hs];refine⟨1,⟨rfl,O1⟩,_,Z 1 _ rfl,?_⟩
     repeat refine⟨rfl,?_⟩
     refine⟨_,am 0 _ rfl,rfl,Jt (vs:=[.slice a o.length cap]) [Bd,D,_] V rfl (by simp[Value.single]) λ U7 K L Y=>?_⟩;refine⟨1,⟨rfl,O1⟩,rfl,WQ (i:=1) (v:=.bool true) [Bd,D] Y (by show 1<2;omega) rfl λ U8 X aa aj=>?_⟩;have hz:U6.frz.lg U8.frz:=⟨λ x o hx=>by show U8.I x=_;rw[X,K];exact hx,⟨[],rfl⟩,aa.trans L⟩;have ag:∀x o,U₀.I x=some o->U8.I x=some o:=λ x o hx=>by rw[X,K];exact E.imm x o hx
     have an:U8.tok=U₀.tok:=by rw[aa,L];exact E.tok
     conv=>whnf
     rw[Qa.on_of (aj:U8.M=Bd::D::(.obj b8 (.cells #[.bool (b.dfO q k true).isSome,.bool true] 122 (0,0))::.obj b5 (.cells #[.slice a o.length cap] 22 (0,0))::.obj b4 (.cells #[.slice a4 (QP (b.dfO q k true)).length c4] 22 (0,0))::U.M))];refine hKN _ _ _ ⟨ag,⟨_,(append_nil _).symm⟩,an⟩ ⟨⟨λ x o h=>ag x o (W.imm x o h),⟨_,(append_nil _).symm⟩,an.trans W.tok⟩,.slice a4 (QP (b.dfO q k true)).length c4,.slice a o.length cap,?_,?_,?_⟩
     .rw[F,G];rfl
     .rw[F];exact h4.lg hz
     .rw[G];exact bd.lg hz
    |some o'=>
     rw[e5]at G;simp at F G;have al:=same KN;rw[e5]at V Z
     repeat refine⟨rfl,?_⟩
     refine⟨_,ac.sees3 (o:=0) rfl,q,⟨rfl,af⟩,_,av,?_⟩;rw[hs];refine⟨1,⟨rfl,O1⟩,_,Z 1 _ rfl,?_⟩
     repeat refine⟨rfl,?_⟩
     conv=>whnf
     exact al _ _ hKN F (by rw[G,e5])
  .rintro d l OA U3' ⟨W,v4,v5,hM,h4,h5⟩;obtain⟨a4,c4,rfl,h4⟩:=h4;obtain⟨a5,c5,rfl,h5⟩:=h5;have ab:(U3'.on (.obj l OA) (.obj d (.deferred (some [])))).M=[.obj l OA,.obj d (.deferred (some []))]++(.obj b8 (.cells #[.bool (b.dfO q b.all.length true).isSome,.bool (b.dfO q b.all.length false).isSome] 122 (0,0))::.obj b5 (.cells #[.slice a5 (QP (b.dfO q b.all.length false)).length c5] 22 (0,0))::.obj b4 (.cells #[.slice a4 (QP (b.dfO q b.all.length true)).length c4] 22 (0,0))::U.M):=by show _::_::U3'.M=_;rw[hM];rfl
   have h4:J0 (U3'.on (.obj l OA) (.obj d (.deferred (some [])))).frz (.slice a4 (QP (b.dfO q b.all.length true)).length c4) (QP (b.dfO q b.all.length true)):=⟨a4,c4,rfl,h4⟩;have h5:J0 (U3'.on (.obj l OA) (.obj d (.deferred (some [])))).frz (.slice a5 (QP (b.dfO q b.all.length false)).length c5) (QP (b.dfO q b.all.length false)):=⟨a5,c5,rfl,h5⟩;have a0:U4.frz.lg (U3'.on (.obj l OA) (.obj d (.deferred (some [])))):=⟨W.imm,⟨_,(append_nil _).symm⟩,W.tok⟩;generalize(U3'.on (.obj l OA) (.obj d (.deferred (some []))))=U5 at ab h4 h5 a0 ⊢;have e1:QP (b.dfO q b.all.length true)=(b.difS q true).map λ(k:Nat)=>(k:Int):=by unfold QP;rw[b.dfO_end]
   have e2:QP (b.dfO q b.all.length false)=(b.difS q false).map λ(k:Nat)=>(k:Int):=by unfold QP;rw[b.dfO_end]
   have bj:=Q9 (b:=b4) (vs:=[.slice a4 (QP (b.dfO q b.all.length true)).length c4]) [_,_,_,_] ab;have bk:=Q9 (b:=b5) (vs:=[.slice a5 (QP (b.dfO q b.all.length false)).length c5]) [_,_,_] ab;refine⟨λ U'=>U5.frz.lg U'/\U'.M=U5.M,λ U U'⟨a,b⟩H=>⟨Dm a H,H.own.trans b⟩,_,bj 0 _ rfl,.slice a5 (QP (b.dfO q b.all.length false)).length c5,λ U' H _=>⟨_,(bk 0 _ rfl).lg H.lg,rfl,_,.refl _,.refl _⟩,λ U' hG=>⟨_,Q9 [_,_,_] (hG.2.trans ab) 0 _ rfl,rfl,_,.refl _,.refl _⟩,?_⟩
   conv=>whnf
   intro U' H _;refine⟨⟨rfl,VV (vs:=[.slice a4 (QP (b.dfO q b.all.length true)).length c4]) [_,_,_,_] (H.own.trans ab) rfl (by simp[Value.single]) ⟨rfl,_,.refl _,⟨⟨λ b o h=>H.imm b o h,⟨_,(append_nil _).symm⟩,H.tok⟩,ab.symm⟩⟩⟩,λ U'' hG=>?_⟩;obtain⟨ad,ai⟩:=hG;have ai:=ai.trans ab;refine⟨rfl,Jt (vs:=[.slice a5 (QP (b.dfO q b.all.length false)).length c5]) [_,_,_] ai rfl (by simp[Value.single]) λ U7 K L Y=>?_⟩;have hz:U5.frz.lg U7.frz:=⟨λ x o hx=>by show U7.I x=_;rw[K];exact ad.imm x o hx,⟨[],rfl⟩,L.trans ad.tok⟩;refine⟨[.obj l OA,.obj d (.deferred none)]++(.obj b8 (.cells #[.bool (b.dfO q b.all.length true).isSome,.bool (b.dfO q b.all.length false).isSome] 122 (0,0))::.obj b5 (.cells #[.slice a5 (QP (b.dfO q b.all.length false)).length c5] 22 (0,0))::.obj b4 (.cells #[.slice a4 (QP (b.dfO q b.all.length true)).length c4] 22 (0,0))::U.M),by rw[Y];exact .there .here,?_⟩;refine⟨_,Q9 [_,_,_,_] rfl 0 _ rfl,?_⟩;refine⟨_,Q9 [_,_,_] rfl 0 _ rfl,?_⟩;refine⟨⟨_,_,rfl,?_,?_⟩,⟨λ x o hx=>?_,⟨[_,_,_,_,_],rfl⟩,?_⟩⟩
   .rw[<- e1];exact h4.lg hz
   .rw[<- e2];exact h5.lg hz
   .show U7.I x=_;rw[K];exact ad.imm x o (a0.imm x o (ax.imm x o hx))
   .show U7.tok=_;rw[L];exact ad.tok.trans (a0.tok.trans a1)
  .exact λ _ _ _ _ _ h=>h.elim
  .exact λ _ _ _ _ h=>h.elim
 .rw[if_neg hF,if_neg hF,if_neg hF]
  conv=>whnf
  intro b7 au;refine⟨_,.refl _,rfl,Zu (vs:=[.slice none 0 0,.slice none 0 0]) au rfl (by simp[Value.single]) λ U3 P a9=>?_⟩
  have a7:U3.M=[.obj b5 (.cells #[.slice none 0 0] 22 (0,0))]++.obj b4 (.cells #[.slice none 0 0] 22 (0,0))::U.M:=by
   rw[P.own];show _::_::U2.M=_;rw[z.own];rfl
  repeat refine⟨rfl,?_⟩
  conv=>whnf
  apply Qd<;>intro hc
  .refine⟨rfl,Jt (vs:=[.slice none 0 0]) [_] a7 rfl (by simp[Value.single]) λ U4 a3 a1 az=>?_⟩;refine⟨rfl,Jt (vs:=[.slice none 0 0]) [] az rfl (by simp[Value.single]) λ U5 a6 be ah=>?_⟩;refine⟨_,Q9 [_] ah 0 _ rfl,_,Q9 [] ah 0 _ rfl,⟨_,_,rfl,.nil,.nil⟩,⟨λ x o hx=>?_,⟨[_,_],ah⟩,?_⟩⟩
   .rw[a6,a3];exact P.imm x o (N.imm x o (z.imm x o hx))
   .rw[be,a1];exact P.tok.trans (N.tok.trans z.tok)
  .exact absurd (by simpa using hc) hF
end Go.Proofs
namespace Go.TM
variable{T:Type}{P:Program}{S:Sys P T}{f:Fm}{K:Value->Qa T->Prop}{U:Qa T}
def Be{t e ty n:Nat}{z:Value}{w:TypeInfo}{x y:Operand}(Z:P.underlying t=some (.slice e))(G:P.info? e=some w)(hz:w.zero=some z)(N:z.cells=#[z])(L:w.size=1)(F:w.bytes<=64)
  (hx:Zo f x=.int .i64 0) (hy:Zo f y=.int .i64 n) (Y:n<=1048576) (h:∀b,U.free b->K (.slice (some ⟨b,0,none⟩) 0 n) (U.put b (.cells (replicate n z).toArray e))) :
  OX S (.raw { dst:=none,op:=.makeSlice t x y,type:=ty,pos := "", after:=#[],guard:=none }) f K U:=by
 intro a' T;simp only[execOp,T,hx,hy];refine rq ?_;unfold Instr.makeSlice;have hw:IntKind.wrap .i64 (n:Int)=n:=G7 I1;have M:IntKind.wrap .i64 (0:Int)=0:=D1
 simp only[Qf,Zk Z,asInt,asIntOf,Qk,Wl G,hw,M]
 have X:(w.bytes:Int)*(n:Int)<=67108864:=by
  have:=Nat.mul_le_mul F Y;have e:((w.bytes*n:Nat):Int)=(w.bytes:Int)*n:=S1
  omega
 have E:(2:Int)^48=281474976710656:=D1
 have I:(((decide ((n:Int)<0)|| decide ((w.bytes:Int)*(n:Int) > 2^48))|| decide ((0:Int)<0))|| decide ((0:Int) > n))=false:=by
  rw[E];simp only[Bool.or_eq_false_iff,decide_eq_false_iff_not];omega
 simp only[I,Bool.false_eq_true,if_false];rw[Qf];refine Vr ?_;simp only[Qf,Jj G,L,Nat.mul_one,Int.toNat_natCast]
 have fin:∀c:Array Value,(n≠0->c=z.cells)->Qr P (newRow e ((Array.range n).map (c[· % c.size]!))) (λ a U'=>∃Q,Qx U' Q/\K (.slice (some a) 0 n) Q) U:=by
  intro c W;refine Jl λ b V=>⟨_,.refl _,?_⟩
  have:(Array.range n).map (c[· % c.size]!)=(replicate n z).toArray:=by
   apply Array.ext
   .simp
   .intro i h1 h2;have H:n≠0:=by simp at h1;omega
    have B:=W H;rw[N]at B;subst B;simp[Nat.mod_one]
  rw[this];exact h b V
 split
 .rename_i h0;exact fin #[] λ h=>absurd h0 h
 .simp only[Qf,XM G hz];exact fin _ λ _=>rfl
def WN.perm{M':List Qw}(e:WN U)(h:U.M.Perm M'):WN { U with M:=M' }:=λ r b=>e r (h.mem_iff.2 b)
def Jx.freeze{e n:Nat}{v:Value}{cs:List Value}{A R:List Qw}(H:WN U)(h:Jx e n v cs A)(z:U.M.Perm (A++R)) :
  ∃U'',Qx U U''/\U''.M=R/\U.frz.lg U''.frz/\∃a len cap,v=.slice a len cap/\cs.length=len*n/\Src U''.frz a cs/\(∀w,a=some w->w.spot=none):=by
 obtain⟨U'',I,b,a,len,cap,B,E,F,G,-⟩:=(h R).freeze (U:={ U with M:=R }) (U':={ U with M:=A++R }) (H.perm z) (λ _ _ h=>h) rfl;exact⟨U'',(HB z).trans I,b.own,⟨b.imm,⟨[],rfl⟩,b.tok⟩,a,len,cap,B,E,F,G⟩
def Jx.blk{e n:Nat}{v:Value}{cs:List Value}{A:List Qw}(h:Jx e n v cs A)(z:cs≠[]):∃b c len cap,v=.slice (some ⟨b,0,none⟩) len cap/\cs.length=len*n/\len<=cap/\c.size=cap*n/\A=[.obj b (.cells c e (0,0))]/\∀(i:Nat)(x:Value),cs[i]?=some x->c[i]?=some x:=by
 rcases h []with⟨_,w,_⟩|⟨b,c,len,cap,w,B,E,F,H,G⟩
 .exact absurd w z
 .exact⟨b,c,len,cap,w,B,E,F,by simpa using H,G⟩
def Jx.ofBlk{e n b len cap:Nat}{cs:List Value}{c:Array Value}(h:cs.length=len*n)(w:len<=cap)(z:c.size=cap*n)(B:∀(i:Nat)(x:Value),cs[i]?=some x->c[i]?=some x):Jx e n (.slice (some ⟨b,0,none⟩) len cap) cs [.obj b (.cells c e (0,0))]:=
 λ _=>.inr ⟨b,c,len,cap,rfl,h,w,z,rfl,B⟩
end Go.TM
namespace Go.TM
def Acc.room{e n:Nat}{a:Option Addr}{l c:Nat}{cs:List Value}{M M₀:List Qw}(h:Acc e n (.slice a l c) cs M M₀):l<=c:=by
 rcases h with⟨e,-,-⟩|⟨_,_,_,_,e,-,h,-⟩ <;> cases e
 .exact Nat.le_refl _
 .exact h
end Go.TM
namespace Go.Proofs
open Go.TM
variable{T:Type}{S:TM.Sys prog T}{U:Qa T}
attribute [local irreducible] Qb Zh Wh
def vN:Xh prog 40 9 1:=.of K1
def tu:prog.underlying 40=some (.slice 9):=K1
def vO:Xh prog 46 22 1:=.of K1
def tv:prog.underlying 46=some (.slice 22):=K1
def LE:Xh prog 41 48 4:=.of K1
def FC(a:Option Addr)(len cap:Nat)(l:List ByteArray)(V:Qy U a len 1 l λ s vs=>vs=[.string s])(aa:len<=1000) :
  Qb S 70 #[.slice a len cap] (λ v U'=>(∃a' b w,v=.slice a' b w/\b<=w/\Qy U'.frz a' b 1 l λ s vs=>vs=[.string s])/\U.le U') U:=by
 have K:=V.1
 have P:Qb S 70 #[.slice a len cap] (λ v U'=>Acc 9 1 v (l.map .string) U'.M U.M/\(∀x o,U.I x=some o->U'.I x=some o)/\U'.tok=U.tok) U:=by
  refine Qb.of (args:=[_]) Sl Qe S1 ?_
  conv=>whnf
  refine Y3 tu rfl ?_
  conv=>whnf
  apply Qd<;>intro Z
  .have Q:a=none:=by simpa using Z
   subst Q
   have:l=[]:=by
    cases l with
    |nil=>rfl
    |cons x r=>
     obtain⟨z,_,_,_,h,_⟩:=Qy.at V (show 0<len by simp at K;omega);cases h
   subst this
   repeat refine⟨rfl,?_⟩
   conv=>whnf
   exact⟨.nil,λ _ _ h=>h,rfl⟩
  .obtain⟨z,rfl⟩:∃z,a=some z:=by cases a with|none=>cases Z|some z=>exact⟨z,rfl⟩
   conv=>whnf
   intro X ac;refine⟨_,.refl _,?_⟩
   conv=>whnf
   refine Wy (v:=.slice (some ⟨X,0,none⟩) 0 0) (cs:=[]) (new:=l.map .string) (M₀:=U.M) vN rfl rfl .empty (.inr ⟨_,rfl,λ i v E=>?_⟩) (by simp[K]) (by simp[Value.single]) S3 λ v' M' G _=>?_
   .rw[getElem?_map]at E;cases F:l[i]? with
    |none=>rw[F]at E;cases E
    |some x=>
     rw[F]at E;cases E;have hi:i<len:=by have:=(List.getElem?_eq_some_iff.1 F).1;omega
     obtain⟨ab,x',vs,N,e,B,rfl,-,W⟩:=Qy.at V hi;cases e;rw[F]at N;cases N;have T:=W 0 _ rfl;obtain⟨bb,oo,ss⟩:=z;cases B;rw[Qp,Qp,Nat.mul_one,Nat.add_zero]at T;rw[Qp];exact T.lg (Z2 X _)
   obtain⟨ta,tl,tc,rfl,-,-⟩:=Acc.src (U:={ U with M:=M' }) G
   repeat refine⟨rfl,?_⟩
   conv=>whnf
   exact⟨by simpa using G,λ _ _ h=>h,rfl⟩
 refine P.sep λ v U' T⟨Q,hI,ht⟩=>?_;obtain⟨U'',k1,k2,a',b,w,rfl,H,L,B,_⟩:=Q.freeze T hI ht;refine⟨U'',k1,⟨a',b,w,rfl,Q.room,?_⟩,k2⟩;refine⟨by simp at H;exact H,λ i x F=>?_⟩;rcases L with⟨_,hn⟩|⟨z,rfl,W⟩
 .rw[map_eq_nil_iff]at hn;subst hn;simp at F
 .refine⟨z,[.string x],rfl,B z rfl,rfl,rfl,λ k v E=>?_⟩;cases k with
  |zero=>
   simp at E;subst E;have Y:=W i (.string x) (by simp[F]);obtain⟨bb,oo,ss⟩:=z;cases B ⟨bb,oo,ss⟩ rfl;rw[Qp]at Y;rw[Qp,Qp,Nat.mul_one,Nat.add_zero];exact Y
  |succ k=>simp at E
end Go.Proofs
namespace Go.TM
variable{T:Type}{P:Program}{S:Sys P T}{U U':Qa T}
def Qb.okv{f:FuncId}{args:Array Value}{R R':Value->Qa T->Prop}{U:Qa T}(h:Qb S f args R U)(e:∀v U',(∃w,U'.ok w)->R v U'->∃U'',Qx U' U''/\R' v U''):Qb S f args R' U:=by
 intro Stop m c cs k;refine h Stop m c cs λ v U' r=>?_;by_cases b:∃w,U'.ok w
 .obtain⟨U'',h1,h2⟩:=e v U' b r;exact .shift h1 (k v _ h2)
 .exact .priv ⟨rfl,λ w ok=>absurd ⟨w,ok⟩ b⟩
def O6(h:∃w,U.ok w):WN U:=let ⟨_,ok⟩:=h;ok.sep
def M8(h:∃w,U.ok w)(k:Qx U U'):∃w,U'.ok w:=let ⟨w,ok⟩:=h;⟨w,(k.2 w ok).1⟩
structure ZO where
 ga:Option Addr
 gl:Nat
 gc:Nat
 v:Value
 F:List Qw
def Q_(p:Cs×ZO):List Value:=[.string p.1.nm,.int .i64 p.1.ag,.slice p.2.ga p.2.gl p.2.gc,p.2.v]
structure X7(U:Qa T)(p:Cs×ZO):Prop where
 gs:J5 U.frz p.2.ga p.2.gl p.1.gs
 gl:p.2.gl<2^60
 af:Jx 3 1 p.2.v (p.1.af.map λ n=>.int .i64 n) p.2.F
 nm:p.1.nm.size<2^60
 al:p.1.af.length<=1000
def X7.lg{p:Cs×ZO}(h:X7 U p)(k:U.frz.lg U'.frz):X7 U' p:=⟨h.gs.lg k,h.gl,h.af,h.nm,h.al⟩
def Q1{α β:Type}{f:α->List β}{n:Nat}(b:∀a,(f a).length=n):∀l:List α,(l.flatMap f).length=l.length*n
 |[]=>S1
 |a::l=>by simp only[flatMap_cons,length_append,b,Q1 b l,length_cons,Nat.succ_mul];omega
def Z4(p:Cs×ZO):(Q_ p).length=4:=rfl
def PO{α β:Type}{f:α->List β}{n:Nat}(e:∀a,(f a).length=n){l:List α}{i j:Nat}{a:α}(h:l[i]?=some a)(w:j<n):(l.flatMap f)[i*n+j]?=(f a)[j]?:=by
 induction l generalizing i with
 |nil=>cases h
 |cons b l z=>
  cases i with
  |zero=>
   simp at h;subst h;rw[flatMap_cons,Nat.zero_mul,Nat.zero_add,getElem?_append_left (by rw[e];exact w)]
  |succ i=>
   simp at h;rw[flatMap_cons,getElem?_append_right (by rw[e,Nat.succ_mul];omega),e];rw[<- z h];congr 1;rw[Nat.succ_mul];omega
structure QR(U:Qa T)(h:BH)(b:Bk)(M₀:List Qw):Prop where
 ex:∃(ps:List (Cs×ZO))(A:List Qw),ps.map (·.1)=b.cs/\(∀p∈ps,X7 U p)/\Jx 48 4 (.slice h.ca h.cl h.cc) (ps.flatMap Q_) A/\U.M.Perm (A++(ps.flatMap (·.2.F)++M₀))
 rs:Qy U.frz h.ra h.rl 1 b.rs λ s vs=>vs=[.string s]
 rl:h.rl<2^60
 rn:∀s∈b.rs,s.size<2^60
 rc:h.rl<=h.rc
def QR.le{h:BH}{b:Bk}{M₀:List Qw}(k:QR U h b M₀)(e:U.le U'):QR U' h b M₀:=
 let ⟨ps,A,h1,h2,h3,h4⟩:=k.ex
 ⟨⟨ps,A,h1,λ p w=>(h2 p w).lg e.lg.frz2,h3,by rw[e.own];exact h4⟩,k.rs.lg e.lg.frz2 λ _ _ h=>h,k.rl,k.rn,k.rc⟩
def MP:∀(ps:List (Cs×ZO)){U:Qa T}{R:List Qw},(∃w,U.ok w)->(∀p∈ps,X7 U p)->U.M.Perm (ps.flatMap (·.2.F)++R) ->
  ∃U'',Qx U U''/\U''.M.Perm R/\U.frz.lg U''.frz/\∀p∈ps,∃aa al ac,p.2.v=.slice aa al ac/\Z0 U''.frz aa al p.1.af/\al<2^60
 |[],U,R,_,_,E=>⟨U,.refl _,by simpa using E,⟨λ _ _ h=>h,⟨[],rfl⟩,rfl⟩,S1⟩
 |p::ps,U,R,K,b,E=>by
  have I:=b p (mem_cons_self ..);rw[flatMap_cons,append_assoc]at E;obtain⟨Q,L,V,N,a,len,cap,e,H,B,G⟩:=I.af.freeze (O6 K) E;obtain⟨S,W,X,P,Y⟩:=MP ps (U:=Q) (R:=R) (M8 K L) (λ q z=>(b q (mem_cons_of_mem _ z)).lg N) (by rw[V]);refine⟨S,L.trans W,X,N.trans P,λ q z=>?_⟩;rcases mem_cons.1 z with rfl|z
  .simp at H;subst H;exact⟨a,_,cap,e,(YS B G).lg P,by have:=I.al;omega⟩
  .exact Y q z
def QR.freeze{h:BH}{b:Bk}{M₀:List Qw}(k:QR U h b M₀)(Y:∃w,U.ok w)(ab:b.cs.length<=1000):∃U'',Qx U U''/\U''.M=M₀/\U.frz.lg U''.frz/\Zp U''.frz h b:=by
 obtain⟨ps,A,Q,N,h3,h4⟩:=k.ex
 have S:U.M.Perm (ps.flatMap (·.2.F)++(A++M₀)):=h4.trans (by
  rw[<- append_assoc,<- append_assoc];exact Perm.append_right _ perm_append_comm)
 obtain⟨U1,k1,k2,V,k4⟩:=MP ps Y N S;obtain⟨U2,m1,m2,P,a,len,cap,e,hl,K,I⟩:=h3.freeze (O6 (M8 Y k1)) k2;cases e;rw[Q1 Z4]at hl;have G:b.cs.length=h.cl:=by rw[<- Q,length_map];omega
 refine⟨U2,k1.trans m1,m2,V.trans P,k.rs.lg (V.trans P) λ _ _ h=>h,⟨G,λ i c z=>?_⟩,k.rl,O1,k.rn,λ c z=>?_⟩
 .have hpi:∃p,ps[i]?=some p/\p.1=c:=by
   rw[<- Q,getElem?_map]at z;cases Z:ps[i]? with
   |none=>rw[Z]at z;cases z
   |some p=>rw[Z]at z;cases z;exact⟨p,rfl,rfl⟩
  obtain⟨p,H,rfl⟩:=hpi;have E:=mem_of_getElem? H;obtain⟨aa,al,ac,ev,hi,T⟩:=k4 p E;rcases K with⟨_,hn⟩|⟨L,B,hr⟩
  .have:ps=[]:=by
    cases ps with
    |nil=>rfl
    |cons q r=>simp[Q_]at hn
   subst this;cases H
  .refine⟨L,Q_ p,B,I L B,⟨p.2.ga,p.2.gl,p.2.gc,aa,al,ac,by rw[<- ev];rfl,(N p E).gs.lg (V.trans P),(N p E).gl,hi.lg P,T⟩,rfl,λ j v X=>?_⟩;have hj:j<4:=by have:=(List.getElem?_eq_some_iff.1 X).1;exact this
   have W:=hr (i*4+j) v (by rw[PO Z4 H hj];exact X);have hs:=I L B;obtain⟨bb,oo,ss⟩:=L;cases hs;rw[Qp]at W;rw[Qp,Qp,Nat.add_assoc];exact W
 .rw[<- Q]at z;obtain⟨p,H,rfl⟩:=mem_map.1 z;exact(N p H).nm
end Go.TM
namespace Go.Proofs
open Go.TM
variable{T:Type}{S:TM.Sys prog T}{U:Qa T}
attribute [local irreducible] Qb Zh Wh
def tO:∃b,prog.info? 22=some b/\b.zero=some (.slice none 0 0)/\b.size=1/\b.bytes<=64:=by
 have e:(prog.info? 22).map (·.zero)=some (some (.slice none 0 0)):=K1
 have w:(prog.info? 22).map (·.size)=some 1:=K1
 have z:(prog.info? 22).map (λ i=>decide (i.bytes<=64))=some true:=K1
 cases h:prog.info? 22 with
 |none=>rw[h]at e;cases e
 |some b=>
  rw[h]at e w z;exact⟨b,rfl,Option.some.inj e,Option.some.inj w,by simpa using z⟩
def Fx(c:Cs)(ga aa:Option Addr)(gl gc al ac:Nat)(hg:J5 U.frz ga gl c.gs)(br:gl<=1000)(ha:Z0 U.frz aa al c.af)(bl:al<=1000)(bb:∀g∈c.gs,g.length<=1000)(bd:c.nm.size<2^60) :
  Qb S 71 #[.agg #[.string c.nm,.int .i64 c.ag,.slice ga gl gc,.slice aa al ac]] (λ v U'=>(∃k:ZO,v=.agg (Q_ (c,k)).toArray/\X7 U' (c,k)/\U'.M=k.F++U.M)/\(∀x o,U.I x=some o->U'.I x=some o)/\U'.tok=U.tok) U:=by
 have bk:=hg.1;have bi:=ha.1
 have ay:Qb S 71 #[.agg #[.string c.nm,.int .i64 c.ag,.slice ga gl gc,.slice aa al ac]] (λ v U'=>∃g v' cells G F Y,v=.agg #[.string c.nm,.int .i64 c.ag,g,v']/\Jx 22 1 g cells G/\Xy U' cells c.gs/\Jx 3 1 v' (c.af.map λ n=>.int .i64 n) F/\U'.M=F++(G++(Y++U.M))/\(∀x o,U.I x=some o->U'.I x=some o)/\U'.tok=U.tok) U:=by
  refine Qb.of (args:=[_]) Sm Qe S1 ?_;obtain⟨bv,i1,i2,i3,i4⟩:=tO
  conv=>whnf
  intro H bo
  conv=>whnf
  intro K bp;refine⟨_,.refl _,?_⟩;have hM:((U.put H (.cells [.string c.nm,.int .i64 c.ag,.slice ga gl gc,.slice aa al ac].toArray 48)).put K (.cells #[.string ⟨#[]⟩,.int .i64 0,.slice none 0 0,.slice none 0 0] 48)).M=[.obj K (.cells #[.string ⟨#[]⟩,.int .i64 0,.slice none 0 0,.slice none 0 0] 48 (0,0))]++.obj H (.cells [.string c.nm,.int .i64 c.ag,.slice ga gl gc,.slice aa al ac].toArray 48 (0,0))::U.M:=rfl;have bt:U.frz.lg ((U.put H (.cells [.string c.nm,.int .i64 c.ag,.slice ga gl gc,.slice aa al ac].toArray 48)).put K (.cells #[.string ⟨#[]⟩,.int .i64 0,.slice none 0 0,.slice none 0 0] 48)):=⟨λ _ _ h=>h,⟨_,(append_nil _).symm⟩,rfl⟩;refine⟨_,(Q9 [_] hM).cell (i:=2) rfl,?_⟩
  conv=>whnf
  refine Be (n:=gl) tv i1 i2 rfl i3 i4 rfl rfl O1 λ bg bm=>?_;have a2:(((U.put H (.cells [.string c.nm,.int .i64 c.ag,.slice ga gl gc,.slice aa al ac].toArray 48)).put K (.cells #[.string ⟨#[]⟩,.int .i64 0,.slice none 0 0,.slice none 0 0] 48)).put bg (.cells (replicate gl (Value.slice none 0 0)).toArray 22)).M=[.obj bg (.cells (replicate gl (Value.slice none 0 0)).toArray 22 (0,0)),.obj K (.cells #[.string ⟨#[]⟩,.int .i64 0,.slice none 0 0,.slice none 0 0] 48 (0,0))]++.obj H (.cells [.string c.nm,.int .i64 c.ag,.slice ga gl gc,.slice aa al ac].toArray 48 (0,0))::U.M:=rfl;refine⟨_,(Q9 [_,_] a2).cell (i:=2) rfl,Nat×Value,λ y=>[(1,.pointer (some ⟨H,0,none⟩)),(2,.pointer (some ⟨K,0,none⟩)),(3,y.2),(11,.slice ga gl gc),(12,.int .i64 gl),(13,.int .i64 y.1)],
   λ y U'=>U.frz.lg U'/\(∃A cells,U'.M=A++([.obj K (.cells #[.string ⟨#[]⟩,.int .i64 0,.slice none 0 0,.slice none 0 0] 48 (0,0)),.obj H (.cells [.string c.nm,.int .i64 c.ag,.slice ga gl gc,.slice aa al ac].toArray 48 (0,0))]++U.M)/\Jx 22 1 y.2 cells A/\Xy U' cells (c.gs.take y.1))/\y.1<=gl,λ y=>gl-y.1,(0,.slice (some ⟨bg,0,none⟩) 0 gl),T1,⟨⟨λ _ _ h=>h,⟨_,(append_nil _).symm⟩,rfl⟩,⟨[_],[],rfl,.ofBlk rfl O1 S1 S1,⟨rfl,S1⟩⟩,O1⟩,?_⟩
  rintro⟨i,v⟩f U1⟨E,⟨A,cells,Q,z,w⟩,hi⟩;simp only at z w hi;obtain⟨sa,sl,sc,rfl,bu⟩:=z.src;have bc:Ze ((i:Int)+1):=I1
  have a9:=w.1;rw[length_take]at a9
  repeat refine⟨rfl,?_⟩
  conv=>whnf
  apply Qd<;>intro hc
  .have hlt:i<gl:=by simpa using hc
   obtain⟨ad,g,vs,hx,rfl,aq,⟨a',ax,X,rfl,ak,bq⟩,-,be⟩:=Qy.at (J5.lg hg E) hlt;have bs:=bb g (mem_of_getElem? hx);have bj:=ak.1;refine⟨ad,i,⟨rfl,rfl,hlt⟩,_,be 0 _ rfl,PZ.any,(Qb.ints (e:=3) (FF a' ax X g ak O1)).mono ?_⟩;rintro _ U2⟨⟨ca,cc,rfl,a8⟩,a5⟩-
   conv=>whnf
   intro bn ba;refine Zl ba λ U3 aj V=>?_;have V:Zf U3 bn #[.slice ca g.length cc]:=V;have B:=a5.trans aj
   have W:Xy U3 (cells++[.slice ca g.length cc]) (c.gs.take (i+1)):=by
    rw[Z3 hx];exact(w.lg B.lg.frz2).snoc (a8.lg aj.lg.frz2) O1
   conv=>whnf
   refine Wy (v:=.slice sa sl sc) (cs:=cells) (new:=[.slice ca g.length cc]) (M₀:=[.obj K (.cells #[.string ⟨#[]⟩,.int .i64 0,.slice none 0 0,.slice none 0 0] 48 (0,0)),.obj H (.cells [.string c.nm,.int .i64 c.ag,.slice (some ad) gl gc,.slice aa al ac].toArray 48 (0,0))]++U.M) vO rfl rfl (by rw[B.own,Q];exact z _) (.inr ⟨_,rfl,V.rd⟩) rfl (by simp[Value.single]) S3 λ v' M' a6 _=>?_;obtain⟨az,a1,P⟩:=a6.split;obtain⟨ta,tl,tc,rfl,-⟩:=P.src;have an:U.frz.lg ({ U3 with M:=M' }:Qa T):=⟨λ x o h=>B.imm x o (E.imm x o h),⟨_,(append_nil _).symm⟩,B.tok.trans E.tok⟩;refine⟨bc,?_⟩
   conv=>whnf
   exact⟨rfl,(i+1,.slice ta tl tc),T1,⟨an,⟨az,_,a1,P,W.lg ⟨λ _ _ h=>h,⟨[],rfl⟩,rfl⟩⟩,by show i+1<=gl;omega⟩,L1⟩
  .have hge:i=c.gs.length:=by simp at hc;omega
   subst hge;rw[take_length]at w;have ap:=Q9 (U:=U1) (b:=H) (e:=48) (M₀:=U.M) (vs:=[.string c.nm,.int .i64 c.ag,.slice ga gl gc,.slice aa al ac]) (A++[.obj K (.cells #[.string ⟨#[]⟩,.int .i64 0,.slice none 0 0,.slice none 0 0] 48 (0,0))]) (by rw[Q];simp);refine⟨_,ap.cell (i:=3) rfl,PZ.any,(FF aa al ac c.af (ha.lg E) O1).mono ?_⟩;rintro v U2⟨a7,Z,av⟩-;obtain⟨F,a4,hF⟩:=a7.split;obtain⟨fa,fl,fc,rfl,-⟩:=hF.src;have a3:U2.M=(F++A++[.obj K (.cells #[.string ⟨#[]⟩,.int .i64 0,.slice none 0 0,.slice none 0 0] 48 (0,0))])++.obj H (.cells [.string c.nm,.int .i64 c.ag,.slice ga gl gc,.slice aa al ac].toArray 48 (0,0))::U.M:=by rw[a4,Q];simp
   refine⟨rfl,WQ (i:=2) (v:=.slice sa sl sc) _ a3 (by show 2<4;omega) rfl λ U3 a0 bf ai=>?_⟩;refine⟨rfl,WQ (i:=3) (v:=.slice fa fl fc) _ ai (by show 3<4;omega) rfl λ U4 ab bh L=>?_⟩;have L:U4.M=(F++A++[.obj K (.cells #[.string ⟨#[]⟩,.int .i64 0,.slice none 0 0,.slice none 0 0] 48 (0,0))])++.obj H (.cells [.string c.nm,.int .i64 c.ag,.slice sa sl sc,.slice fa fl fc].toArray 48 (0,0))::U.M:=L;have ah:U4.M=(F++A)++.obj K (.cells #[.string ⟨#[]⟩,.int .i64 0,.slice none 0 0,.slice none 0 0] 48 (0,0))::.obj H (.cells [.string c.nm,.int .i64 c.ag,.slice sa sl sc,.slice fa fl fc].toArray 48 (0,0))::U.M:=by rw[L];simp
   refine⟨_,⟨rfl,Q9 _ L⟩,rfl,Jt (vs:=[.string c.nm,.int .i64 c.ag,.slice sa sl sc,.slice fa fl fc]) _ ah rfl (by simp[Value.single]) λ U5 ae aw N=>?_⟩;refine⟨_,⟨rfl,Q9 _ N⟩,?_⟩;have hz:U1.frz.lg U5.frz:=⟨λ x o h=>by show U5.I x=_;rw[ae,ab,a0];exact Z x o h,⟨[],rfl⟩,by show U5.tok=_;rw[aw,bh,bf];exact av⟩
   conv=>whnf
   exact⟨_,_,cells,A,F,[_,_],rfl,z,w.lg hz,hF,by rw[N];simp;exact⟨rfl,rfl⟩,λ x o h=>hz.imm x o (E.imm x o h),hz.tok.trans E.tok⟩
 refine ay.okv λ v U' hw⟨g,v',cells,G,F,Y,hv,hG,w,hF,hM,hI,ht⟩=>?_
 have hp:U'.M.Perm (G++(F++(Y++U.M))):=by
  rw[hM];exact perm_append_comm_assoc _ _ _
 obtain⟨U1,k1,k2,k3,a,len,cap,rfl,hl,au,aq⟩:=hG.freeze (O6 hw) hp;have am:c.gs.length=len:=by rw[<- w.1];omega
 have ao:=(w.lg k3).lists au aq;rw[am]at ao;refine⟨{ U1 with M:=F++U.M },k1.trans (Z5 (by rw[k2];exact(Sublist.refl F).append (sublist_append_right Y U.M))),⟨⟨a,len,cap,v',F⟩,hv,⟨ao,by show len<_;omega,hF,bd,by show c.af.length<=_;omega⟩,rfl⟩,λ x o h=>k3.imm x o (hI x o h),k3.tok.trans ht⟩
def Io:List (List (Nat×St)):=[[(0,.xo 19 1 3),(0,.xl 20 19),(0,.xd 21 4 5),(2,.d 22 (.call (.func 71) #[(.t 21)])),(2,.d 23 (.bsl 48 1 #[(.string ⟨#[]⟩),(.int .i64 0),(.slice none 0 0),(.slice none 0 0)] [(0,4,(.t 22))]))]]
def Am:List St:=[.xz 24 20 23 41,.xo 25 1 3,⟨.st 1 (.t 25) (.t 24),none,none,none⟩]
def FY:List (List (Nat×St)):=[[(0,.xo 152 1 10),(0,.xl 153 152),(0,.m 154 15),(0,.xo 155 1 10),(0,.xl 156 155),(0,.m 157 15),(0,.xi 158 4 156 157),(0,.xo 159 3 158),(0,.xl 160 159),(0,.m 161 17),(2,.d 162 (.bsl 3 1 #[(.int .i64 0)] [(0,1,(.t 161))])),(2,.xz 163 160 162 22)]]
def R4:List St:=[.xi 164 4 153 154,.xo 165 3 164,⟨.st 1 (.t 165) (.t 163),none,none,none⟩]
end Go.Proofs
namespace Go.TM
def Qy.case{T:Type}{U:Qa T}{h:BH}{b:Bk}(k:Qy U h.ca h.cl 4 b.cs (Gg U)){i:Nat}(K:i<h.cl) :
  ∃e c ga gl gc aa al ac,b.cs[i]?=some c/\h.ca=some e/\e.spot=none/\Z6 U (e.add (i*4)) [.string c.nm,.int .i64 c.ag,.slice ga gl gc,.slice aa al ac]/\J5 U ga gl c.gs/\gl<2^60/\Z0 U aa al c.af/\al<2^60/\c∈b.cs:=by
 obtain⟨e,c,vs,E,w,B,⟨ga,gl,gc,aa,al,ac,rfl,F,G,H,I⟩,-,z⟩:=k.at K;exact⟨e,c,ga,gl,gc,aa,al,ac,E,w,B,z,F,G,H,I,mem_of_getElem? E⟩
structure Bk.Sml(b:Bk):Prop where
 rs:b.rs.length<=1000
 cs:b.cs.length<=1000
 gs:∀c∈b.cs,c.gs.length<=1000/\(∀g∈c.gs,g.length<=1000)/\c.af.length<=1000
end Go.TM
namespace Go.Proofs
open Go.TM
variable{T:Type}{S:TM.Sys prog T}{U:Qa T}
attribute [local irreducible] Qb Zh Wh
set_option maxHeartbeats 1000000 in
def AG(h:BH)(b:Bk)(hb:Zp U.frz h b)(hs:b.Sml) :
  Qb S 114 #[h.v] (λ v U'=>(∃X:BH,v=X.v/\QR U' X b U.M)/\(∀x o,U.I x=some o->U'.I x=some o)/\U'.tok=U.tok) U:=by
 have ce:=hb.cs.1;have cm:=hb.rs.1;have co:=hs.rs;have cp:=hs.cs
 have bl:Qb S 114 #[h.v] (λ v U'=>∃(X:BH)(ps:List (Cs×ZO))(A R Y:List Qw),v=X.v/\ps.map (·.1)=b.cs/\(∀p∈ps,X7 U' p)/\Jx 48 4 (.slice X.ca X.cl X.cc) (ps.flatMap Q_) A/\U'.M=A++(R++(Y++U.M))/\R.Perm (ps.flatMap (·.2.F))/\Qy U'.frz X.ra X.rl 1 b.rs (λ s vs=>vs=[.string s])/\X.rl<=X.rc/\(∀x o,U.I x=some o->U'.I x=some o)/\U'.tok=U.tok) U:=by
  refine Qb.of (args:=[_]) LN Qe S1 ?_
  repeat refine⟨rfl,?_⟩
  conv=>whnf
  intro B U1 ax hB;have hB:Zf U1 B #[.slice h.ra h.rl h.rc,.slice h.ca h.cl h.cc]:=hB
  conv=>whnf
  intro P cf;refine⟨_,.refl _,?_⟩;have a4:=Z2 (U:=U1) P (.cells #[.slice none 0 0,.slice none 0 0] 90);refine⟨_,(hB.lg a4).sees3 (o:=0) rfl,Sl.any,(FC h.ra h.rl h.rc b.rs ((hb.rs.lg (ax.lg.frz2.trans a4.frz2) λ _ _ h=>h).lg Qm λ _ _ h=>h) O1).mono ?_⟩;rintro _ U2⟨⟨ra,rl,rc,rfl,N,an⟩,bb⟩-
  conv=>whnf
  intro H cg;refine⟨_,.refl _,rfl,Gd (vs:=[.slice ra rl rc,.slice none 0 0]) rfl (by simp[Value.single]) ?_⟩;have bi:=Z2 (U:=U2) H (.cells #[.slice ra rl rc,.slice none 0 0] 43);have au:U1.lg U2:=a4.trans bb.lg;refine⟨_,(hB.lg (au.trans bi)).sees3 (o:=1) rfl,?_⟩;have V:U.frz.lg U2.frz:=ax.lg.frz2.trans au.frz2
  refine⟨Nat×Value,λ y=>[(1,.pointer (some ⟨B,0,none⟩)),(2,.pointer (some ⟨P,0,none⟩)),(3,.pointer (some ⟨H,0,none⟩)),(13,.slice h.ca h.cl h.cc),(14,.int .i64 h.cl),(15,.int .i64 y.1)],
   λ y U'=>U2.frz.lg U'/\(∃(ps:List (Cs×ZO))(A R:List Qw),ps.map (·.1)=b.cs.take y.1/\(∀p∈ps,X7 U' p)/\Jx 48 4 y.2 (ps.flatMap Q_) A/\R.Perm (ps.flatMap (·.2.F))/\U'.M=A++(R++([.obj H (.cells [.slice ra rl rc,y.2].toArray 43 (0,0)),.obj P (.cells #[.slice none 0 0,.slice none 0 0] 90 (0,0))]++U.M)))/\y.1<=h.cl,
   λ y=>h.cl-y.1,(0,.slice none 0 0),T1,⟨⟨λ _ _ h=>h,⟨_,(append_nil _).symm⟩,rfl⟩,⟨[],[],[],rfl,S1,.nil,.refl _,?_⟩,O1⟩,?_⟩
  .show _::U2.M=_;rw[bb.own];show _::_::U1.M=_;rw[ax.own];rfl
  rintro⟨i,v⟩f U3⟨K,⟨ps,A,R,L,am,E,hR,Q⟩,hi⟩;simp only at L E Q hi;obtain⟨sa,sl,sc,rfl,cq⟩:=E.src;have bv:Ze ((i:Int)+1):=I1
  have bx:ps.length=i:=by
   have:=congrArg List.length L;rw[length_map,length_take]at this;omega
  repeat refine⟨rfl,?_⟩
  conv=>whnf
  apply Qd<;>intro hc
  .have hlt:i<h.cl:=by simpa using hc
   obtain⟨ad,c,ga,gl,gc,aa,al,ac,hx,bs,b8,bz,hg,ck,ha,b9,av⟩:=hb.case hlt;obtain⟨ch,bu,cj⟩:=hs.gs c av;have b6:=hg.1;have b4:=ha.1;refine⟨ad,i,⟨bs,rfl,hlt⟩,_,⟨rfl,(bz.lg V).lg K⟩,?_⟩
   conv=>whnf
   intro b5 bt;refine⟨_,.refl _,rfl,Zu (vs:=[.string c.nm,.int .i64 c.ag,.slice ga gl gc,.slice aa al ac]) bt rfl (by simp[Value.single]) λ U4 ay br=>?_⟩;have ae:=ay.own.trans Q;have a2:=K.trans ay.lg;have ap:U.frz.lg U4.frz:=V.trans a2.frz2;have bd:=hb.cn c av
   let Ub:Qa T:={ U4 with M:=R++([.obj H (.cells [.slice ra rl rc,.slice sa sl sc].toArray 43 (0,0)),.obj P (.cells #[.slice none 0 0,.slice none 0 0] 90 (0,0))]++U.M) }
   have bp:Ub.lg U4:=⟨λ _ _ h=>h,⟨A,ae⟩,rfl⟩;have bj:Z6 Ub ⟨H,0,none⟩ [.slice ra rl rc,.slice sa sl sc]:=Q9 R rfl;have bc:Zf Ub b5 #[.string c.nm,.int .i64 c.ag,.slice ga gl gc,.slice aa al ac]:=br
   conv=>whnf
   intro b1 ai
   refine My (mu:=[1005]) (ops:=Pw Tryz.f114 5) (id:=5) ai Ub bp [3,4] [[0,1,2,3,4]] [5,6,7] Io Am Qe K1 K1 K1 K1 K1
    (λ f' a6 U'=>a6=[]/\∃(z:Nat)(k:ZO),XS f' [(1,.pointer (some ⟨B,0,none⟩)),(2,.pointer (some ⟨P,0,none⟩)),(3,.pointer (some ⟨H,0,none⟩)),(13,.slice h.ca h.cl h.cc),(14,.int .i64 h.cl),(15,.int .i64 i),(20,.slice sa sl sc),(23,.slice (some ⟨z,0,none⟩) 1 1)]/\X7 U' (c,k)/\Zf U' z (Q_ (c,k)).toArray/\U4.frz.lg U'/\U'.M=A++(k.F++(R++([.obj H (.cells [.slice ra rl rc,.slice sa sl sc].toArray 43 (0,0)),.obj P (.cells #[.slice none 0 0,.slice none 0 0] 90 (0,0))]++U.M)))) ?_ ?_
   .intro l Z;simp only[Io,mem_cons,not_mem_nil,or_false]at Z;subst Z;refine⟨_,bj.cell (i:=1) rfl,_,⟨rfl,bc.rd⟩,?_⟩;refine⟨λ v U'=>∃k:ZO,v=.agg (Q_ (c,k)).toArray/\X7 U' (c,k)/\U4.frz.lg U'/\U'.M=A++(k.F++(R++([.obj H (.cells [.slice ra rl rc,.slice sa sl sc].toArray 43 (0,0)),.obj P (.cells #[.slice none 0 0,.slice none 0 0] 90 (0,0))]++U.M))),λ v U1 U2⟨k,e,hk,Z,Q⟩w=>⟨k,e,hk.lg w.lg.frz2,Z.trans w.lg,w.own.trans Q⟩,λ v U'⟨k,e,hk,Z,Q⟩=>⟨Z.imm,⟨A++k.F,by rw[Q];simp[Ub]⟩,Z.tok⟩,λ U' hC=>?_,λ v hv=>?_⟩
    .have w:=hC;refine⟨Sm.any,(Fx c ga aa gl gc al ac (hg.lg (ap.trans w.lg.frz2)) O1 (ha.lg (ap.trans w.lg.frz2)) O1 bu bd).mono ?_⟩;rintro v U''⟨⟨k,e,hk,bo⟩,hI,ht⟩-
     have hp:U''.M.Perm (A++(k.F++(R++([.obj H (.cells [.slice ra rl rc,.slice sa sl sc].toArray 43 (0,0)),.obj P (.cells #[.slice none 0 0,.slice none 0 0] 90 (0,0))]++U.M)))):=by
      rw[bo,w.own,ae];exact perm_append_comm_assoc _ _ _
     exact⟨_,HB hp,k,e,hk.lg ⟨λ _ _ h=>h,⟨[],rfl⟩,rfl⟩,⟨λ x o hx=>hI x o (w.imm x o hx),⟨_,(append_nil _).symm⟩,ht.trans w.tok⟩,rfl⟩
    obtain⟨_,⟨cr,cu,ct,kv,kF⟩,rfl,bw,-⟩:=hv;obtain⟨a0,l0,c0,e0,-⟩:=bw.af.src;obtain rfl:kv=.slice a0 l0 c0:=e0;refine⟨λ v U'=>∃(z:Nat)(k':ZO),v=.slice (some ⟨z,0,none⟩) 1 1/\X7 U' (c,k')/\Zf U' z (Q_ (c,k')).toArray/\U4.frz.lg U'/\U'.M=A++(k'.F++(R++([.obj H (.cells [.slice ra rl rc,.slice sa sl sc].toArray 43 (0,0)),.obj P (.cells #[.slice none 0 0,.slice none 0 0] 90 (0,0))]++U.M))),λ v U1 U2⟨z,k,e,hk,G,Z,Q⟩w=>⟨z,k,e,hk.lg w.lg.frz2,G.le w,Z.trans w.lg,w.own.trans Q⟩,λ v U'⟨z,k,e,hk,G,Z,Q⟩=>⟨Z.imm,⟨A++k.F,by rw[Q];simp[Ub]⟩,Z.tok⟩,λ U' hC=>?_,λ v hv=>?_⟩
    .obtain⟨k',e,az,a1,ab⟩:=hC
     conv=>whnf
     intro z be;refine Zl be λ U'' w G=>⟨_,.refl _,z,k',rfl,az.lg w.lg.frz2,?_,a1.trans w.lg,w.own.trans ab⟩;have e':=toArray_inj (Value.agg.inj e);rw[<- e'];exact G
    obtain⟨_,z,k2,rfl,-⟩:=hv
    conv=>whnf
    rintro U'⟨a5,k',e,az,G,a1,ab⟩;obtain rfl:z=a5:=by simpa using e
    exact⟨rfl,z,k',T1,az,G,a1,ab⟩
   rintro f' a6 U5⟨rfl,z,k,bf,hk,G,a3,ba⟩;rw[<- bf.ovr];clear bf;have bh:(ps.flatMap Q_).length=i*4:=by rw[Q1 Z4,bx]
   conv=>whnf
   refine Wy (v:=.slice sa sl sc) (cs:=ps.flatMap Q_) (new:=Q_ (c,k)) (M₀:=k.F++(R++([.obj H (.cells [.slice ra rl rc,.slice sa sl sc].toArray 43 (0,0)),.obj P (.cells #[.slice none 0 0,.slice none 0 0] 90 (0,0))]++U.M))) LE rfl rfl (by rw[ba];exact E _) (.inr ⟨_,rfl,G.rd⟩) rfl (by
    have:=hk.af.src;obtain⟨a0,l0,c0,e0,-⟩:=this;simp only[Q_];rw[show k.v=.slice a0 l0 c0 from e0];simp[Value.single]) (by rw[bh,Z4];omega) λ v' M' bq _=>?_
   obtain⟨aw,ab,ao⟩:=bq.split;obtain⟨ta,tl,tc,rfl,-⟩:=ao.src;have bm:({ U5 with M:=M' }:Qa T).M=(aw++(k.F++R))++.obj H (.cells [.slice ra rl rc,.slice sa sl sc].toArray 43 (0,0))::.obj P (.cells #[.slice none 0 0,.slice none 0 0] 90 (0,0))::U.M:=by show M'=_;rw[ab];simp
   refine⟨rfl,WQ (i:=1) (v:=.slice ta tl tc) _ bm (by show 1<2;omega) rfl λ U6 a8 bk ah=>?_⟩;have ah:U6.M=aw++((k.F++R)++([.obj H (.cells [.slice ra rl rc,.slice ta tl tc].toArray 43 (0,0)),.obj P (.cells #[.slice none 0 0,.slice none 0 0] 90 (0,0))]++U.M)):=by rw[ah];simp
   have aq:U5.frz.lg U6.frz:=⟨λ x o hx=>by show U6.I x=_;rw[a8];exact hx,⟨[],rfl⟩,bk⟩;have bg:U4.frz.lg U6.frz:=a3.frz2.trans aq;have aj:U3.frz.lg U6.frz:=ay.lg.frz2.trans bg
   conv=>whnf
   intro a' ak;refine⟨by rw[ak.size,ai.size],_,ak.get,?_⟩;rw[ak.ds];clear ak ai;refine⟨bv,rfl,(i+1,.slice ta tl tc),T1,⟨⟨λ x o hx=>aj.imm x o (K.imm x o hx),⟨_,(append_nil _).symm⟩,aj.tok.trans K.tok⟩,⟨ps++[(c,k)],aw,k.F++R,?_,?_,?_,?_,ah⟩,by show i+1<=h.cl;omega⟩,L1⟩
   .rw[map_append,L,Z3 hx];rfl
   .intro p hp;rcases mem_append.1 hp with hp|hp
    .exact(am p hp).lg aj
    .rw[mem_singleton.1 hp];exact hk.lg aq
   .rw[flatMap_append];simpa using ao
   .rw[flatMap_append];simp only[flatMap_cons,flatMap_nil,append_nil];exact(Perm.append_left k.F hR).trans perm_append_comm
  .have hge:i=b.cs.length:=by simp at hc;omega
   subst hge;rw[take_length]at L;have bn:U3.M=(A++R)++.obj H (.cells [.slice ra rl rc,.slice sa sl sc].toArray 43 (0,0))::.obj P (.cells #[.slice none 0 0,.slice none 0 0] 90 (0,0))::U.M:=by rw[Q];simp
   have a9:U3.M=(A++R++[.obj H (.cells [.slice ra rl rc,.slice sa sl sc].toArray 43 (0,0))])++.obj P (.cells #[.slice none 0 0,.slice none 0 0] 90 (0,0))::U.M:=by rw[Q];simp
   refine⟨_,⟨rfl,Q9 _ bn⟩,rfl,Jt (vs:=[.slice ra rl rc,.slice sa sl sc]) _ a9 rfl (by simp[Value.single]) λ U4 a7 b0 ae=>?_⟩;have W:U3.frz.lg U4.frz:=⟨λ x o hx=>by show U4.I x=_;rw[a7];exact hx,⟨[],rfl⟩,b0⟩;refine⟨_,⟨rfl,Q9 _ ae⟩,?_⟩
   conv=>whnf
   exact⟨⟨ra,rl,rc,sa,sl,sc⟩,ps,A,R,[_,_],rfl,L,λ p hp=>(am p hp).lg W,E,by rw[ae];simp;exact⟨rfl,rfl⟩,hR,an.lg (K.frz2.trans W) λ _ _ h=>h,N,λ x o hx=>W.imm x o (K.imm x o (V.imm x o hx)),W.tok.trans (K.tok.trans V.tok)⟩
 refine bl.post λ v U'⟨X,ps,A,R,Y,hv,L,am,E,Q,hR,an,N,hI,ht⟩=>?_;have b7:=an.1;refine⟨{ U' with M:=A++(R++U.M) },Z5 (by rw[Q];exact(Sublist.refl A).append ((Sublist.refl R).append (sublist_append_right Y U.M))),⟨X,hv,⟨⟨ps,A,L,λ p hp=>(am p hp).lg ⟨λ _ _ h=>h,⟨[],rfl⟩,rfl⟩,E,Perm.append_left A (Perm.append_right _ hR)⟩,an.lg ⟨λ _ _ h=>h,⟨[],rfl⟩,rfl⟩ λ _ _ h=>h,O1,hb.rn,N⟩⟩,hI,ht⟩
end Go.Proofs
namespace Go.TM
variable{T:Type}{P:Program}{S:Sys P T}{U:Qa T}
def XB(l:List Int):Prop:=l.Pairwise (·<=·)
def ug{l:List Int}(h:Xv l l.length):XB l:=by
 rw[XB,pairwise_iff_getElem];intro i j w e b;exact h i j _ _ b e (getElem?_eq_getElem w) (getElem?_eq_getElem e)
def Vl(n x:Int):∀l:List Int,x∈ZD n l↔x=n\/x∈l
 |[]=>by simp[ZD]
 |y::l=>by
  unfold ZD;split
  .simp only[mem_cons,Vl n x l];constructor
   .rintro(h|h|h) <;> simp[h]
   .rintro(h|h|h) <;> simp[h]
  .simp only[mem_cons]
def US(n:Int):∀l:List Int,XB l->XB (ZD n l)
 |[],_=>by simp[ZD,XB]
 |y::l,h=>by
  unfold XB at h;rw[pairwise_cons]at h;unfold ZD;split
  .rename_i hlt;unfold XB;rw[pairwise_cons];refine⟨λ x b=>?_,US n l h.2⟩;rcases(Vl n x l).1 b with rfl|b
   .omega
   .exact h.1 x b
  .rename_i hge;unfold XB;rw[pairwise_cons,pairwise_cons];refine⟨λ x b=>?_,h⟩;rcases mem_cons.1 b with rfl|b
   .omega
   .have:=h.1 x b;omega
def KL(n:Int):∀l:List Int,(ZD n l).Perm (l++[n])
 |[]=>by simp[ZD]
 |y::l=>by
  unfold ZD;split
  .exact(KL n l).cons y
  .exact(perm_append_comm (l₁:=[n]) (l₂:=y::l))
def de{n:Int}{l l':List Int}(h:XB l)(e:l'.Perm (l++[n]))(w:Xv l' l'.length):l'=ZD n l:=
 Perm.eq_of_pairwise (le:=(·<=·)) (λ a b _ _ e w=>O1) (ug w) (US n l h) (e.trans (KL n l).symm)
def Fg{α:Type}{l:List α}{i:Nat}{a:α}(h:l[i]?=some a):∃X Y,l=X++a::Y/\X.length=i/\∀a',l.set i a'=X++a'::Y:=by
 obtain⟨b,rfl⟩:=List.getElem?_eq_some_iff.1 h;refine⟨l.take i,l.drop (i+1),?_,S3,λ a'=>?_⟩
 .rw[getElem_cons_drop,take_append_drop]
 .rw[set_eq_take_append_cons_drop,if_pos b]
end Go.TM
namespace Go.Proofs
open Go.TM
variable{T:Type}{S:TM.Sys prog T}{U:Qa T}
attribute [local irreducible] Qb Zh Wh
def Rz(h:BH)(b:Bk)(M₀:List Qw)(ho:QR U h b M₀)(k:Nat)(n:Int)(hk:k<b.cs.length)(ai:XB (b.cas k).af)(bc:(b.cas k).af.length<=11) :
  Qb S 115 #[h.v,.agg #[.int .i64 k,.int .i64 n]] (λ _ U'=>QR U' h (b.sty ((k:Int),n)) M₀/\(∀x o,U.I x=some o->U'.I x=some o)/\U'.tok=U.tok) U:=by
 obtain⟨ps,A,aq,ao,a5,hM⟩:=ho.ex;have bm:k<ps.length:=by rw[<- aq,length_map]at hk;exact hk
 obtain⟨p,hp⟩:∃p,ps[k]?=some p:=⟨_,getElem?_eq_getElem bm⟩;obtain⟨X,Y,rfl,hX,be⟩:=Fg hp;obtain⟨c,Z,ab,aa,kv,W⟩:=p
 have ae:b.cas k=c:=by
  have:=congrArg (λ l=>l[k]?) aq;simp only[getElem?_map,hp]at this;simp[Bk.cas,getD_eq_getElem?_getD,<- this]
 rw[ae]at ai bc;have ap:=ao _ (mem_of_getElem? hp);obtain⟨a0,l0,c0,e0,bo⟩:=ap.af.src;obtain rfl:kv=.slice a0 l0 c0:=e0;have hF:Jx 3 1 (.slice a0 l0 c0) (c.af.map λ n=>.int .i64 n) W:=ap.af;obtain⟨cb,cc,aw,av,aj,K,a9,L,rfl,a8⟩:=a5.blk (by simp[Q_]);have bl:h.cl=aw:=by have:=Value.slice.inj aj;exact this.2.1
 have am:h.ca=some ⟨cb,0,none⟩:=by have:=Value.slice.inj aj;exact this.1
 have ad:h.cc=av:=by have:=Value.slice.inj aj;exact this.2.2
 have ah:k<h.cl:=by
  rw[Q1 Z4]at K;omega
 have N:U.M.Perm (W++(.obj cb (.cells cc.toList.toArray 48 (0,0))::((X.flatMap (·.2.F)++Y.flatMap (·.2.F))++M₀))):=by
  refine hM.trans ?_;rw[flatMap_append,flatMap_cons];show Perm (.obj cb (.cells cc 48 (0,0))::(X.flatMap (·.2.F)++(W++Y.flatMap (·.2.F))++M₀)) _;refine Perm.trans (Perm.cons _ ?_) perm_middle.symm;rw[<- append_assoc W];refine Perm.append_right _ ?_;rw[<- append_assoc,<- append_assoc];exact Perm.append_right _ perm_append_comm
 have an:∀j,j<4->cc.toList[k*4+j]?=(Q_ (c,⟨Z,ab,aa,.slice a0 l0 c0,W⟩))[j]?:=by
  intro j hj;have h1:=PO Z4 hp hj;have h2:∃x,(Q_ (c,(⟨Z,ab,aa,.slice a0 l0 c0,W⟩:ZO)))[j]?=some x:=⟨_,getElem?_eq_getElem (by rw[Z4];exact hj)⟩;obtain⟨x,w⟩:=h2;rw[w]at h1 ⊢;rw[Array.getElem?_toList];exact a8 _ _ h1
 refine Qb.shift (HB N) ?_;generalize au:(X.flatMap (·.2.F)++Y.flatMap (·.2.F))++M₀=rest at N ⊢;generalize a3:({ U with M:=W++(.obj cb (.cells cc.toList.toArray 48 (0,0))::rest) }:Qa T)=U₀;have az:U₀.M=W++(.obj cb (.cells cc.toList.toArray 48 (0,0))::rest):=by rw[<- a3]
 have bt:U.frz.lg U₀.frz:=by rw[<- a3];exact⟨λ _ _ h=>h,⟨[],rfl⟩,rfl⟩
 have bg:Qb S 115 #[h.v,.agg #[.int .i64 k,.int .i64 n]] (λ _ U'=>(∃v' P,Jx 3 1 v' ((ZD n c.af).map λ n=>.int .i64 n) P/\v'.single=true/\U'.M=P++(.obj cb (.cells (cc.setIfInBounds (k*4+3) v') 48 (0,0))::rest))/\(∀x o,U₀.I x=some o->U'.I x=some o)/\U'.tok=U₀.tok) U₀:=by
  refine Qb.of (args:=[_,_]) LO Qe S1 ?_
  repeat refine⟨rfl,?_⟩
  conv=>whnf
  intro B U1 al hB;have hB:Zf U1 B #[.slice h.ra h.rl h.rc,.slice h.ca h.cl h.cc]:=hB
  conv=>whnf
  intro b3 U2 Q H;have H:Zf U2 b3 #[.int .i64 k,.int .i64 n]:=H;have hB:=hB.le Q;have ac:U2.M=W++.obj cb (.cells cc.toList.toArray 48 (0,0))::rest:=(al.trans Q).own.trans az;have bp:=Q9 _ ac
  have br:U2.sees (((Addr.mk cb 0 none).add (k*4)).add 3) (.slice a0 l0 c0):=by
   have:=bp (k*4+3) (.slice a0 l0 c0) (an 3 O1);rw[Qp]at this;rw[Qp,Qp,Nat.add_assoc];exact this
  refine⟨_,hB.sees3 (o:=1) rfl,_,H.sees3 (o:=0) rfl,⟨cb,0,none⟩,k,⟨am,rfl,ah⟩,_,br,_,H.sees3 (o:=1) rfl,λ v U'=>∃z,v=.slice (some ⟨z,0,none⟩) 1 1/\Zf U' z #[.int .i64 n],λ v U1 U2⟨z,e,hb⟩bb=>⟨z,e,hb.le bb⟩,λ U' bb hC=>?_,λ v hv=>?_⟩
  .conv=>whnf
   intro z ba;exact Zl ba λ U3 G hb=>⟨_,.refl _,⟨z,rfl,hb⟩,G⟩
  obtain⟨_,-,-,z,rfl,-⟩:=hv
  conv=>whnf
  intro U3 G hC;obtain⟨-,bu,bh,a6⟩:=hC;cases bh;have a1:=G.own.trans ac;have bv:c.af.length=l0:=by simpa using bo
  conv=>whnf
  refine Wy (v:=.slice a0 l0 c0) (cs:=c.af.map λ n=>.int .i64 n) (new:=[.int .i64 n]) (M₀:=.obj cb (.cells cc.toList.toArray 48 (0,0))::rest) HA rfl rfl (by rw[a1];exact hF _) (.inr ⟨_,rfl,a6.rd⟩) rfl (by simp[Value.single]) S3 λ v' M' V _=>?_;have V:Acc 3 1 v' ((c.af++[n]).map λ n=>.int .i64 n) M' (.obj cb (.cells cc.toList.toArray 48 (0,0))::rest):=by simpa using V
  obtain⟨ta,tc,rfl,-⟩:=Df (U:={ U3 with M:=M' }) V;refine⟨LS.any,(Ry (U:={ U3 with M:=M' }) _ (c.af++[n]) _ V S3).mono ?_⟩;rintro _ U4⟨ax,bs,l',bd,bq,a4⟩-;have bn:l'=ZD n c.af:=de ai bd (by rw[bd.length_eq];exact bq);subst bn;obtain⟨P,bk,ak⟩:=a4.split;have E:∀x o,U2.I x=some o->U4.I x=some o:=λ x o w=>ax x o (G.imm x o w);have bi:=hB.imI E;have a7:=H.imI E;refine⟨_,bi.sees3 (o:=1) rfl,_,a7.sees3 (o:=0) rfl,⟨cb,0,none⟩,k,⟨am,rfl,ah⟩,rfl,?_⟩;rw[show((Addr.mk cb 0 none).add (k*4)).add 3=(Addr.mk cb 0 none).add (k*4+3) by rw[Qp,Qp,Qp,Nat.add_assoc]];refine WQ (i:=k*4+3) (v:=.slice ta (c.af++[n]).length tc) P bk (by simp;rw[L,<- ad];omega) rfl λ U5 ay bf a2=>?_;refine⟨⟨_,P,ak,rfl,by rw[a2]⟩,λ x o w=>?_,?_⟩
  .rw[ay];exact E x o ((al.trans Q).imm x o w)
  .rw[bf];exact bs.trans (G.tok.trans (al.trans Q).tok)
 refine bg.mono ?_;rintro v U'⟨⟨v',P,ak,bw,bj⟩,hI,ht⟩;have hz:U.frz.lg U'.frz:=bt.trans ⟨hI,⟨[],rfl⟩,ht⟩;refine⟨⟨⟨X++({ c with af:=ZD n c.af },⟨Z,ab,aa,v',P⟩)::Y,[.obj cb (.cells (cc.setIfInBounds (k*4+3) v') 48 (0,0))],?_,?_,?_,?_⟩,ho.rs.lg hz λ _ _ h=>h,ho.rl,ho.rn,ho.rc⟩,hz.imm,hz.tok⟩
 .show _=(b.cs.set (k:Int).toNat { b.cas (k:Int).toNat with af:=ZD n (b.cas (k:Int).toNat).af });rw[Int.toNat_natCast,ae,<- aq,<- map_set (f:=λ p:Cs×ZO=>p.1) (a:=({ c with af:=ZD n c.af },(⟨Z,ab,aa,v',P⟩:ZO)))];rw[be]
 .intro q hq;rw[mem_append,mem_cons]at hq;rcases hq with hq|rfl|hq
  .exact(ao q (by simp[hq])).lg hz
  .have:=ap.lg hz
   exact⟨this.gs,this.gl,ak,this.nm,by
    show(ZD n c.af).length<=_;rw[(KL n c.af).length_eq];simp;omega⟩
  .exact(ao q (by simp[hq])).lg hz
 .rw[am,bl,ad];refine .ofBlk ?_ a9 (by simp[L]) λ i x w=>?_
  .rw[Q1 Z4]at K ⊢;simpa using K
  .have hlen1:(X.flatMap Q_).length=k*4:=by rw[Q1 Z4,hX]
   rw[Array.getElem?_setIfInBounds];rw[flatMap_append,flatMap_cons]at w;have ag:=a8 i;rw[flatMap_append,flatMap_cons]at ag;by_cases e:k*4+3=i
   .subst e;rw[if_pos rfl,if_pos (by rw[L];omega)];rw[getElem?_append_right O1,hlen1,Nat.add_sub_cancel_left,getElem?_append_left (by rw[Z4];omega)]at w;exact w
   .rw[if_neg e];refine ag x ?_;by_cases h1:i<k*4
    .rw[getElem?_append_left O1]at w ⊢;exact w
    .rw[getElem?_append_right O1,hlen1]at w ⊢;by_cases h2:i-k*4<4
     .rw[getElem?_append_left (by rw[Z4];exact h2)]at w ⊢;have:i-k*4=0\/i-k*4=1\/i-k*4=2:=O1
      rcases this with e|e|e <;> rw[e]at w ⊢ <;> exact w
     .rw[getElem?_append_right (by rw[Z4];omega)]at w ⊢;exact w
 .rw[bj,<- au,flatMap_append,flatMap_cons];show Perm _ (.obj cb _::(X.flatMap (·.2.F)++(P++Y.flatMap (·.2.F))++M₀));refine Perm.trans perm_middle (Perm.cons _ ?_);rw[<- append_assoc P];refine Perm.append_right _ ?_;rw[<- append_assoc,<- append_assoc];exact Perm.append_right _ perm_append_comm
end Go.Proofs

