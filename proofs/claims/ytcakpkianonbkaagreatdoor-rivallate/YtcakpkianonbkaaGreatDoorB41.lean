/- Lemmas. No conditions. -/
import Derived.Test.YtcakpkianonbkaaGreatDoorB40
import Derived.Test.YtcakpkianonbkaaGreatDoorB04
set_option linter.all false
open List
open Go.Proofs.Tryz (prog)
set_option maxRecDepth 100000
namespace Go.TM
def Bk.ords_le(b:Bk)(h:b.cs.length<=5):∀(k:Nat)(o:List Nat),(b.ords k o).length<=5^k:=by
 intro k
 induction k with
 |zero=>intro o;simp[Bk.ords]
 |succ k ih=>
  intro o
  have key:∀m,(b.ordsTo k o m).length<=m*5^k:=by
   intro m
   induction m with
   |zero=>simp[Bk.ordsTo]
   |succ m ihm=>
    rw[b.ordsTo_succ,length_append,Nat.succ_mul]
    have:(if b.can o m then b.ords k (o++[m])else[]).length<=5^k:=by
     split
     .exact ih _
     .exact Nat.zero_le _
    omega
  have h1:=key b.cs.length;have h2:b.cs.length*5^k<=5*5^k:=Nat.mul_le_mul_right _ h;rw[Nat.pow_succ,Nat.mul_comm];exact Nat.le_trans h1 h2
def Bk.all_le(b:Bk)(h:b.cs.length<=5):b.all.length<=3125:=
 Nat.le_trans (b.ords_le h _ _) (Nat.le_trans (Nat.pow_le_pow_right (by omega) h) (by decide))
def Bk.wc(b:Bk)(k i:Nat):Nat:=(b.all.take k).countP λ o=>(b.ends o).2.getD i false
def Bk.wc_succ{b:Bk}{k:Nat}{o:List Nat}(h:b.all[k]?=some o)(i:Nat):b.wc (k+1) i=b.wc k i+if(b.ends o).2.getD i false then 1 else 0:=by
 unfold Bk.wc;rw[Jt h,countP_append];simp[countP_cons]
def Bk.wc_le(b:Bk)(k i:Nat):b.wc k i<=b.all.length:=Nat.le_trans countP_le_length (by rw[length_take];omega)
def Bk.sc(b:Bk)(k:Nat):List (Six×Nat):=Qw9 ((b.all.take k).map λ o=>six (W2 (b.ends o).1))
def Bk.sc_succ{b:Bk}{k:Nat}{o:List Nat}(h:b.all[k]?=some o):b.sc (k+1)=Qde (six (W2 (b.ends o).1)) (b.sc k):=by
 unfold Bk.sc;rw[Jt h,map_append,map_singleton,Qy5]
def Bk.sc_facts(b:Bk)(k:Nat):(b.sc k).length<=b.all.length/\(∀p∈b.sc k,p.2<=b.all.length)/\∀q:Six->Bool,Qxg q (b.sc k)=(b.all.take k).countP λ o=>q (six (W2 (b.ends o).1)):=by
 obtain⟨h1,h2,h3⟩:=Zdq _ ((b.all.take k).map λ o=>six (W2 (b.ends o).1)) rfl;have hl:((b.all.take k).map λ o=>six (W2 (b.ends o).1)).length<=b.all.length:=by simp;omega
 exact⟨Nat.le_trans h1 hl,λ p hp=>Nat.le_trans (h2 p hp) hl,λ q=>by unfold Bk.sc;rw[h3,countP_map];rfl⟩
def Wg(b:Bk)(k i:Nat):List Value:=(range b.cs.length).map λ j=>.int .i64 (b.wc (if j<i then k+1 else k) j:Nat)
def Qf8{b:Bk}{k i j:Nat}(h:j<b.cs.length):(Wg b k i)[j]?=some (.int .i64 (b.wc (if j<i then k+1 else k) j:Nat)):=by
 unfold Wg;rw[getElem?_map,getElem?_range h];rfl
def Qo7(b:Bk)(k i:Nat):(Wg b k i).length=b.cs.length:=by simp[Wg]
def Zjy(b:Bk)(k i:Nat)(h:i<b.cs.length):(Wg b k i).toArray.setIfInBounds i (.int .i64 (b.wc (k+1) i:Nat))=(Wg b k (i+1)).toArray:=by
 apply Array.ext';rw[Array.toList_setIfInBounds];apply ext_getElem?;intro j;rw[getElem?_set];by_cases e:i=j
 .subst e;rw[if_pos rfl,if_pos (by simpa[Wg]using h),Qf8 h,if_pos (by omega)]
 .rw[if_neg e];by_cases hj:j<b.cs.length
  .rw[Qf8 hj,Qf8 hj];have:(j<i)=(j<i+1):=propext (by omega);simp[this]
  .rw[getElem?_eq_none (by rw[Qo7];omega),getElem?_eq_none (by rw[Qo7];omega)]
def Zjx(b:Bk)(k:Nat):Wg b k b.cs.length=Wg b (k+1) 0:=by
 unfold Wg;refine map_congr_left λ j hj=>?_;rw[if_pos (mem_range.1 hj),if_neg (by omega)]
def Zeo(b:Bk):Wg b 0 0=replicate b.cs.length (.int .i64 0):=by
 apply ext_getElem?;intro j;by_cases hj:j<b.cs.length
 .rw[Qf8 hj,getElem?_replicate,if_pos hj,if_neg (by omega)];simp[Bk.wc]
 .rw[getElem?_eq_none (by rw[Qo7];omega),getElem?_eq_none (by simp;omega)]
def Zr9{a n:Nat}(ha:a<2^60)(h:n<60):IntKind.wrap .i64 ((BitVec.ofInt (IntKind.bits .i64) (Int.fdiv (a:Int) (2^(min ((n:Int).toNat) (IntKind.bits .i64))))&&&BitVec.ofInt (IntKind.bits .i64) 1).toNat:Int)=((if a.testBit n then 1 else 0:Nat):Int):=by
 have h1:a>>>n<2^60:=Nat.lt_of_le_of_lt (Nat.shiftRight_le a n) ha;have h2:=Zm5 h1 (show 1<2^60 by decide);rw[show((1:Nat):Int)=1 from rfl]at h2;have h3:Int.fdiv (a:Int) (2^(min ((n:Int).toNat) (IntKind.bits .i64)))=((a>>>n:Nat):Int):=Zol h;have h4:=Qva ha h;rw[Zol h,h2]at h4;rw[h3];refine h2.trans ?_;congr 1;rw[Nat.and_one_is_mod]at h4 ⊢;have:a>>>n % 2<2:=Nat.mod_lt _ (by omega);cases hb:a.testBit n with
 |true=>
  rw[hb,beq_iff_eq]at h4;simp only[if_true];omega
 |false=>
  rw[hb]at h4;have:=ne_of_beq_false h4;simp only[Bool.false_eq_true,if_false];omega
variable{T:Type}{U:Qa T}
def Q1g{b:Nat}{c:Array Value}{t:TypeId}{M':List Qv}{Q:Qa T->Prop}(hf:U.free b)(hp:M'.Sublist U.M)(h:∀U1:Qa T,(∀x o,U.I x=some o->U1.I x=some o)->U1.tok=U.tok->U1.M=M'->Zd U1 b c->Q U1):∃U1,Qw (U.put b (.cells c t)) U1/\Q U1:=
 ⟨_,(Wf (b:=b) (M':=U.M) (Perm.refl _)).trans (Z4 (M':=M') hp),h _ (Qor (o:=.cells c t) hf).imm rfl rfl Zd.new⟩
def Zsf{κ:Type}[DecidableEq κ](k:κ)(z:Value)(l:List (κ×Value)):(lk k (Qq1 k z l)).getD z=(lk k l).getD z:=by
 unfold Qq1;split
 .rfl
 .rename_i h;have h0:lk k l=none:=by simpa using h
  rw[h0]
  have:∀(l:List (κ×Value))(i:Nat),lkI k l i=none->((lkI k (l++[(k,z)]) i).map (·.2))=some z:=by
   intro l
   induction l with
   |nil=>intro i _;simp[lkI]
   |cons p l ih=>
    intro i hi;simp only[lkI]at hi;split at hi
    .cases hi
    .rename_i e;simp only[cons_append,lkI,if_neg e];exact ih _ hi
  unfold lk at h0 ⊢;rw[this l 0 (by simpa using h0)];rfl
end Go.TM
namespace Go.Proofs
open Go.TM
def Zew:∃inf,prog.info? 3=some inf/\inf.zero=some (.int .i64 0)/\inf.size=1/\inf.bytes=8:=by
 have h1:(prog.info? 3).map (·.zero)=some (some (.int .i64 0)):=by kernel_rfl
 have h2:(prog.info? 3).map (·.size)=some 1:=by kernel_rfl
 have h3:(prog.info? 3).map (·.bytes)=some 8:=by kernel_rfl
 cases h:prog.info? 3 with
 |none=>rw[h]at h1;cases h1
 |some inf=>
  rw[h]at h1 h2 h3;exact⟨inf,rfl,Option.some.inj h1,Option.some.inj h2,Option.some.inj h3⟩
def Qmy:Zrz prog 103 6:=.of (by kernel_rfl)
def Qfp:prog.underlying 152=some (.map 103 3):=by kernel_rfl
def Qip{T:Type}:Qjx T prog 103 (λ k:Six=>.agg (Q5o k).toArray):=by
 obtain⟨e,inf,h1,h2,h3,h4,-⟩:=Qmy.h;exact Qjx.arr h1 h2 rfl h3 h4 (λ k=>rfl) (λ k=>Qo0 _) Zp1 λ k=>by simp[Instr.sameBits,Q5o,Qaj]
def Qyr:SlT prog 57 39 1:=.of (by kernel_rfl)
def Qpe:List (List (Nat×St)):=[[(0,.xl 27 4),(0,.xo 28 1 7),(0,.xd 29 6 28),(2,.d 30 (.raw { dst:=none,op:=(.lookup 152 (.t 27) (.t 29) false),type:=3,pos := "", after:=#[],guard:=none })),(0,.xa 31 30),(2,.d 32 (.raw { dst:=none,op:=(.mapEntry 152 (.t 27) (.t 29)),type:=0,pos := "", after:=#[],guard:=none })),(0,.xe 33 32 1)],
 [(0,.xl 27 4),(0,.xo 28 1 7),(0,.xd 29 6 28),(2,.d 32 (.raw { dst:=none,op:=(.mapEntry 152 (.t 27) (.t 29)),type:=0,pos := "", after:=#[],guard:=none })),(0,.xe 33 32 1),(2,.d 30 (.raw { dst:=none,op:=(.lookup 152 (.t 27) (.t 29) false),type:=3,pos := "", after:=#[],guard:=none })),(0,.xa 31 30)]]
def Q4d:List St:=[⟨.raw { dst:=none,op:=(.entryStore 152 (.t 27) (.t 33) (.t 31)),type:=0,pos := "", after:=#[],guard:=none },none,none,none⟩]
end Go.Proofs
namespace Go.TM
variable{T:Type}{P:Program}{S:Sys P T}{U:Qa T}
def Acc.letgo{e n:Nat}{v:Value}{cs:List Value}{M A M₀:List Qv}(h:Acc e n v cs M (A++M₀)):∃M',M'.Sublist M/\Acc e n v cs M' M₀:=by
 rcases h with⟨h1,h2,hM⟩|⟨b,c,len,cap,h1,h2,h3,h4,hM,h5⟩
 .exact⟨M₀,by rw[hM];exact sublist_append_right A M₀,.inl ⟨h1,h2,rfl⟩⟩
 .exact⟨_,by rw[hM];exact(sublist_append_right A M₀).cons₂ _,.inr ⟨b,c,len,cap,h1,h2,h3,h4,rfl,h5⟩⟩
def Sep.sublist{U:Qa T}{M':List Qv}(hs:Sep U)(h:M'.Sublist U.M):Sep { U with M:=M' }:=λ r hr=>hs r (h.subset hr)
def Qb.lists2{f:FuncId}{args:Array Value}{e e':Nat}{l1 l2:List Int}{rest:List Value}(h:Qb S f args (λ v U'=>∃v1 v2 A Mr,v=.tuple (v1::v2::rest).toArray/\Acc e' 1 v2 (l2.map λ n=>.int .i64 n) U'.M Mr/\Acc e 1 v1 (l1.map λ n=>.int .i64 n) Mr (A++U.M)/\(∀x ox,U.I x=some ox->U'.I x=some ox)/\U'.tok=U.tok) U) :
  Qb S f args (λ v U'=>(∃v1 v2,v=.tuple (v1::v2::rest).toArray/\J0 U'.frz v1 l1/\J0 U'.frz v2 l2)/\U.le U') U:=by
 have h1:Qb S f args (λ v U'=>∃v1 v2 A,v=.tuple (v1::v2::rest).toArray/\J0 U'.frz v2 l2/\Acc e 1 v1 (l1.map λ n=>.int .i64 n) U'.M (A++U.M)/\(∀x ox,U.I x=some ox->U'.I x=some ox)/\U'.tok=U.tok) U:=by
  refine h.sep λ v U' hs⟨v1,v2,A,Mr,hv,h2,h1,hI,ht⟩=>?_;obtain⟨U'',k1,k2,a,len,cap,rfl,hl,hsrc,hsp,_⟩:=h2.freeze (U:={ U' with M:=Mr }) hs (λ _ _ h=>h) rfl;simp at hl;exact⟨U'',k1,v1,_,A,hv,⟨a,cap,by rw[hl],Qmd hsrc hsp⟩,by rw[show U''.M=Mr from k2.own];exact h1,λ x o h=>k2.imm x o (hI x o h),k2.tok.trans ht⟩
 refine h1.sep λ v U' hs⟨v1,v2,A,hv,h2,h1,hI,ht⟩=>?_;obtain⟨M',hsub,h1⟩:=h1.letgo;obtain⟨U'',k1,k2,a,len,cap,rfl,hl,hsrc,hsp,_⟩:=h1.freeze (U:={ U' with M:=U.M }) (U':={ U' with M:=M' }) (hs.sublist hsub) (λ _ _ h=>h) rfl;simp at hl;have hz:U'.frz.lg U''.frz:=⟨k2.imm,⟨[],rfl⟩,k2.tok⟩;exact⟨U'',(Z4 hsub).trans k1,⟨_,v2,hv,⟨a,cap,by rw[hl],Qmd hsrc hsp⟩,h2.lg hz⟩,⟨λ x o h=>k2.imm x o (hI x o h),k2.own,k2.tok.trans ht⟩⟩
def Jx(e:TypeId)(n:Nat)(v:Value)(cs:List Value)(A:List Qv):Prop:=∀M₁,Acc e n v cs (A++M₁) M₁
def Acc.split{e n:Nat}{v:Value}{cs:List Value}{M M₀:List Qv}(h:Acc e n v cs M M₀):∃A,M=A++M₀/\Jx e n v cs A:=by
 rcases h with⟨rfl,rfl,rfl⟩|⟨b,c,len,cap,rfl,h1,h2,h3,rfl,h4⟩
 .exact⟨[],rfl,λ _=>.inl ⟨rfl,rfl,rfl⟩⟩
 .exact⟨[_],rfl,λ _=>.inr ⟨b,c,len,cap,rfl,h1,h2,h3,rfl,h4⟩⟩
def Jx.nil{e n:Nat}:Jx e n (.slice none 0 0) [] []:=λ _=>.nil
def Jx.src{e n:Nat}{v:Value}{cs:List Value}{A:List Qv}(h:Jx e n v cs A):∃a l c,v=.slice a l c/\cs.length=l*n:=by
 rcases h []with⟨rfl,rfl,_⟩|⟨b,c,len,cap,rfl,h1,_⟩
 .exact⟨none,0,0,rfl,by simp⟩
 .exact⟨_,_,_,rfl,h1⟩
def Qdw{b:Nat}{o o':Obj}{M M':List Qv}(h:J4 b o' o M M'):∀A:List Qv,J4 b o' o (A++M) (A++M')
 |[]=>h
 |_::A=>.there (Qdw h A)
def Zp2{s:Nat->Bool}{r:Nat}(hr:r<6):Qdi (Qaj s) (Qaj (Q6g s r true))=s r:=by
 rw[Bool.eq_iff_iff,Qy9];unfold Q6g;constructor
 .intro h;have:=h r hr
  rwa [if_pos rfl]at this
 .intro h j _;by_cases e:j=r
  .rw[if_pos e,e,h]
  .rw[if_neg e]
def Zss{κ:Type}{l:List (κ×Nat)}{i:Nat}{p:κ×Value}(h:(toV l)[i]?=some p):∃q,l[i]?=some q/\p=(q.1,.int .i64 (q.2:Nat)):=by
 unfold toV at h;rw[getElem?_map]at h;cases hx:l[i]? with
 |none=>rw[hx]at h;cases h
 |some q=>rw[hx]at h;cases h;exact⟨q,rfl,rfl⟩
def Zi8{κ:Type}{q:κ->Bool}{l:List (κ×Nat)}{seen:Array Nat}{i:Nat}{p:κ×Nat}(h:l[i]?=some p):Qvx q l (seen.push i).toList=Qvx q l seen.toList+if q p.1 then p.2 else 0:=by
 unfold Qvx;rw[Array.toList_push,map_append,sum_append];simp[h]
abbrev Qdo:Six->Value:=λ k=>.agg (Q5o k).toArray
end Go.TM
namespace Go.Proofs
open Go.TM
variable{T:Type}{S:TM.Sys prog T}{U:Qa T}
attribute [local irreducible] Qb Zh We
set_option maxHeartbeats 2000000 in
def Qjk(h:BH)(b:Bk)(hb:Zt U.frz h b)(hok:b.Ok):Qb S 46 #[h.v] (λ v U'=>(∃v1 v2,v=.tuple #[v1,v2]/\J0 U'.frz v1 b.fatesR/\J0 U'.frz v2 b.fatesC)/\U.le U') U:=by
 refine Qb.lists2 (e:=39) (e':=39) (rest:=[]) (Qb.of (args:=[_]) Qsm Qd (by simp) ?_);have hcl:=hb.cs.1;have hrl:=hb.rs.1;have hnc:=hok.nc;have hnr:=hok.nr;have hN:=b.all_le hnc;obtain⟨i3,i3a,i3b,i3c,i3d⟩:=Zew
 repeat refine⟨rfl,?_⟩
 conv=>whnf
 intro B U1 h_1 hB;have hB:Zd U1 B #[.slice h.ra h.rl h.rc,.slice h.ca h.cl h.cc]:=hB
 conv=>whnf
 refine Qck Qdo λ mb hmb=>?_
 conv=>whnf
 intro b4 hf4;refine⟨_,.refl _,rfl,Zs (vs:=[.map (some mb)]) hf4 rfl (by simp[Value.single]) λ U2 h_2 hb4=>?_⟩;have hlg_2:U1.lg U2:=(Z0 mb _).trans h_2.lg;refine⟨_,(hB.lg hlg_2).sees3 (o:=1) rfl,?_⟩
 conv=>whnf
 refine Qmj (n:=h.cl) Qh0 i3a i3b rfl i3c (by omega) rfl rfl (by omega) λ wb hwb=>?_
 conv=>whnf
 intro b5 hf5;refine⟨_,.refl _,rfl,Zs (vs:=[.slice (some ⟨wb,0,none⟩) h.cl h.cl]) hf5 rfl (by simp[Value.single]) λ U3 h_3 hb5=>?_⟩;have hlg_3:U2.lg U3:=(Z0 wb _).trans h_3.lg
 conv=>whnf
 intro b6 hf6;refine⟨_,.refl _,rfl,Qgn (vs:=[.int .i64 0]) rfl (by simp[Value.single]) ?_⟩;have hlgp:=Z0 (U:=U3) b6 (.cells #[.int .i64 0] 3);refine⟨_,⟨rfl,(hB.lg (hlg_2.trans (hlg_3.trans hlgp))).reads (λ k v hv=>by simpa using hv)⟩,?_⟩;refine⟨Qsq.any,(Qk3 h b ((hb.lg h_1.lg.frz2).lg (Qq.trans (hlg_2.trans (hlg_3.trans hlgp))))).mono ?_⟩;rintro _ U4⟨⟨B',rfl,hB'⟩,h_4⟩-;have hlg_4:U1.lg U4:=hlg_2.trans (hlg_3.trans (hlgp.trans h_4.lg));have hb4:Zd U4 b4 #[.map (some mb)]:=hb4.lg (hlg_3.trans (hlgp.trans h_4.lg));have hb5:Zd U4 b5 #[.slice (some ⟨wb,0,none⟩) h.cl h.cl]:=hb5.lg (hlgp.trans h_4.lg)
 have hM4:U4.M=.obj b6 (.cells #[.int .i64 ((0:Nat):Int)] 3 (0,0))::.obj wb (.cells (Wg b 0 0).toArray 3 (0,0))::.obj mb (Qt Qdo (toV (b.sc 0)))::U.M:=by
  rw[h_4.own,Zeo,hcl];show _::U3.M=_;rw[h_3.own];show _::_::U2.M=_;rw[h_2.own];show _::_::_::U1.M=_;rw[h_1.own];rfl
 have hf_4:U.frz.lg U4.frz:=h_1.lg.frz2.trans hlg_4.frz2;have ht4:U4.tok=U.tok:=hlg_4.tok.trans h_1.tok;have hit:∀l U5,U4.frz.lg U5->Zer S 83 #[.func (.yield l) #[] #[],.pointer (some ⟨B',0,none⟩)] l b.all.length (Zf8 b) U5:=λ l U5 hl=>Qhw h b (hb.lg (hf_4.trans hl.frz2)) hok (hB'.imI hl.imm);clear hB' hlgp hlg_3 hlg_2 hwb hf4 hf5 hf6 hmb h_2 h_3 h_4
 conv=>whnf
 let Inv:Nat->Qa T->Prop:=λ k U'=>U4.frz.lg U'/\U'.M=.obj b6 (.cells #[.int .i64 (k:Nat)] 3 (0,0))::.obj wb (.cells (Wg b k 0).toArray 3 (0,0))::.obj mb (Qt Qdo (toV (b.sc k)))::U.M
 refine Qzl Qd b.all.length (Zf8 b) Inv (λ _ _=>False) (λ _=>False) rfl rfl Qsw.any hit ?_ ?_ ⟨Qq,hM4⟩ ?_ ?_ ?_ ?_
 .rintro k p U' ⟨o,v,-,rfl,-⟩;rfl
 .rintro k U' U'' hle ⟨hl,hM⟩;exact⟨Zdt hl hle,hle.own.trans hM⟩
 .rintro l A' Bd D k p U₀ KN KX KR KA hk ⟨o,v,ho,rfl,a,cap,rfl,hio,hcap,hsp⟩ ⟨hl,hM⟩ hKN hKX hKR hKA
  conv=>whnf
  intro b7 hf7;refine⟨_,.refl _,rfl,Zs (vs:=Qbj (.slice a o.length cap) (W2 (b.ends o).1) (J3 (b.ends o).2)) hf7 rfl (by simp[Qbj,Value.single]) λ U5 h_5 hb_7=>?_⟩
  conv=>whnf
  have e1:U5=({ U5 with M:=U₀.M }:Qa T).on A' D:=by
   have:=h_5.own;obtain⟨i1,m1,t1⟩:=U5;simp only[Qa.on]at this ⊢;rw[this]
  rw[e1];refine hKA _ _ ?_;have hM6:(({ U5 with M:=U₀.M }:Qa T).on Bd D).M=[Bd,D]++(.obj b6 (.cells #[.int .i64 (k:Nat)] 3 (0,0))::.obj wb (.cells (Wg b k 0).toArray 3 (0,0))::.obj mb (Qt Qdo (toV (b.sc k)))::U.M):=by show Bd::D::U₀.M=_;rw[hM];rfl
  have hI6:∀x o,U₀.I x=some o->(({ U5 with M:=U₀.M }:Qa T).on Bd D).I x=some o:=λ x o h=>h_5.imm x o h;have hb7:Zd (({ U5 with M:=U₀.M }:Qa T).on Bd D) b7 (Qbj (.slice a o.length cap) (W2 (b.ends o).1) (J3 (b.ends o).2)).toArray:=hb_7;have ht6:(({ U5 with M:=U₀.M }:Qa T).on Bd D).tok=U₀.tok:=h_5.tok;generalize(({ U5 with M:=U₀.M }:Qa T).on Bd D)=U6 at hM6 hI6 hb7 ht6 ⊢;clear e1 h_5 hb_7 hf7;refine⟨_,Q7 [Bd,D] hM6 0 _ rfl,by unfold Zm;omega,?_⟩;refine⟨rfl,Js (vs:=[.int .i64 ((k:Int)+1)]) [Bd,D] hM6 rfl (by simp[Value.single]) λ U7 hI_7 ht_7 hM_7=>?_⟩;have hI7:∀x o,U₀.I x=some o->U7.I x=some o:=λ x o h=>by rw[hI_7];exact hI6 x o h
  have hb7:Zd U7 b7 (Qbj (.slice a o.length cap) (W2 (b.ends o).1) (J3 (b.ends o).2)).toArray:=hb7.imI λ x o h=>by rw[hI_7];exact h
  have hb4₇:Zd U7 b4 #[.map (some mb)]:=hb4.imI λ x o h=>hI7 x o (hl.imm x o h);have hb5₇:Zd U7 b5 #[.slice (some ⟨wb,0,none⟩) h.cl h.cl]:=hb5.imI λ x o h=>hI7 x o (hl.imm x o h);have htk:U7.tok=U₀.tok:=ht_7.trans ht6;obtain⟨hscl,hscn,-⟩:=b.sc_facts k;have hcn:Qg1 (six (W2 (b.ends o).1)) (b.sc k)<=3125:=Nat.le_trans (Ze1 _ _ hscn) hN;have hke:∀q:Six,Qdo q=.agg (Q5o q).toArray:=λ _=>rfl;have hkey:Value.agg (Qaj (W2 (b.ends o).1)).toArray=Qdo (six (W2 (b.ends o).1)):=by rw[hke,Znp]
  have hups:=Zrc (six (W2 (b.ends o).1)) (.int .i64 0) (.int .i64 ((Qg1 (six (W2 (b.ends o).1)) (b.sc k)+1:Nat):Int)) (toV (b.sc k));rw[Zfz,<- b.sc_succ ho]at hups;have hinc:Zm ((Qg1 (six (W2 (b.ends o).1)) (b.sc k):Nat)+1:Int):=by unfold Zm;omega
  have hrd7:Z7 U7.frz ((Addr.mk b7 0 none).add 1) (Qaj (W2 (b.ends o).1)):=
   ((hb7.imI (U':=U7.frz) λ _ _ h=>h).reads (vs:=Qbj (.slice a o.length cap) (W2 (b.ends o).1) (J3 (b.ends o).2)) (λ k v hv=>by simpa using hv)).sub (o:=1) (n:=6)
  have hb4f:Zd U7.frz b4 #[.map (some mb)]:=hb4₇.imI λ _ _ h=>h;generalize hK:six (W2 (b.ends o).1)=ky at hcn hkey hups hinc
  let F0:Qa T->Prop:=λ U'=>U7.frz.lg U'/\U'.M=U7.M
  let F1:Qa T->Prop:=λ U'=>U7.frz.lg U'/\U'.M=[Bd,D]++(.obj b6 (.cells #[.int .i64 ((k:Int)+1)] 3 (0,0))::.obj wb (.cells (Wg b k 0).toArray 3 (0,0))::.obj mb (Qt Qdo (Qq1 ky (.int .i64 0) (toV (b.sc k))))::U.M)
  conv=>whnf
  intro ac hfr0
  refine Qvg (mu:=[]) (ops:=Q6m Tryz.f46 7) (id:=7) hfr0 [3,5] [[0,1,2,3,4,5,6],[0,1,2,5,6,3,4]] [7] Qpe Q4d Qd (by kernel_rfl) (by kernel_rfl) (by kernel_rfl) (by kernel_rfl) (by kernel_rfl)
   (λ f' ds' U'=>ds'=[]/\Qjc f' [(5,.pointer (some ⟨b5,0,none⟩)),(7,.pointer (some ⟨b7,0,none⟩)),(27,.map (some mb)),(31,.int .i64 ((Qg1 ky (b.sc k):Nat)+1:Int)),(33,.int .i64 (Q1f ky (toV (b.sc k)):Nat))]/\F1 U') ?_ ?_
  .intro l hl;simp only[Qpe,mem_cons,not_mem_nil,or_false]at hl;rcases hl with rfl|rfl
   .skip
    refine⟨_,hb4f.sees3 (o:=0) rfl,_,⟨rfl,hrd7⟩,λ v U'=>v=.int .i64 (Qg1 ky (b.sc k):Nat)/\F0 U',λ v U1 U2 hF hle=>⟨hF.1,hF.2.1.trans hle.lg,hle.own.trans hF.2.2⟩,λ v U' hF=>hF.2.1,λ U' hC=>?_,λ v hv=>?_⟩
    .have hM':U'.M=U7.M:=hC.own;have hlg':U7.frz.lg U':=⟨hC.imm,⟨_,(append_nil _).symm⟩,hC.tok⟩
     conv=>whnf
     refine Qke (k:=ky) (l:=toV (b.sc k)) Qip Qfp Qgf rfl hkey (.inr (by rw[hM',hM_7];simp)) ?_;rw[Q1a];exact⟨_,.refl _,rfl,hlg',hM'⟩
    obtain⟨_,rfl,-⟩:=hv;refine⟨hinc,λ v U'=>v=.tuple #[.int .i64 (Qg1 ky (b.sc k):Nat),.int .i64 (Q1f ky (toV (b.sc k)):Nat)]/\F1 U',λ v U1 U2 hF hle=>⟨hF.1,hF.2.1.trans hle.lg,hle.own.trans hF.2.2⟩,λ v U' hF=>hF.2.1,λ U' hC=>?_,λ v hv=>?_⟩
    .obtain⟨-,hlg',hM'⟩:=hC
     conv=>whnf
     refine Qmk (k:=ky) (l:=toV (b.sc k)) (z:=.int .i64 0) (M':=[Bd,D]++(.obj b6 (.cells #[.int .i64 ((k:Int)+1)] 3 (0,0))::.obj wb (.cells (Wg b k 0).toArray 3 (0,0))::.obj mb (Qt Qdo (Qq1 ky (.int .i64 0) (toV (b.sc k))))::U.M)) Qip Qfp Qgf rfl hkey (by rw[hM',hM_7];exact .there (.there (.there (.there .here)))) ?_;rw[Q1a];exact⟨_,.refl _,rfl,⟨hlg'.imm,⟨_,(append_nil _).symm⟩,hlg'.tok⟩,rfl⟩
    obtain⟨_,rfl,-⟩:=hv
    conv=>whnf
    rintro U'⟨-,hF⟩;exact⟨rfl,by trivial,hF⟩
   .skip
    refine⟨_,hb4f.sees3 (o:=0) rfl,_,⟨rfl,hrd7⟩,λ v U'=>v=.tuple #[.int .i64 (Qg1 ky (b.sc k):Nat),.int .i64 (Q1f ky (toV (b.sc k)):Nat)]/\F1 U',λ v U1 U2 hF hle=>⟨hF.1,hF.2.1.trans hle.lg,hle.own.trans hF.2.2⟩,λ v U' hF=>hF.2.1,λ U' hC=>?_,λ v hv=>?_⟩
    .have hM':U'.M=U7.M:=hC.own;have hlg':U7.frz.lg U':=⟨hC.imm,⟨_,(append_nil _).symm⟩,hC.tok⟩
     conv=>whnf
     refine Qmk (k:=ky) (l:=toV (b.sc k)) (z:=.int .i64 0) (M':=[Bd,D]++(.obj b6 (.cells #[.int .i64 ((k:Int)+1)] 3 (0,0))::.obj wb (.cells (Wg b k 0).toArray 3 (0,0))::.obj mb (Qt Qdo (Qq1 ky (.int .i64 0) (toV (b.sc k))))::U.M)) Qip Qfp Qgf rfl hkey (by rw[hM',hM_7];exact .there (.there (.there (.there .here)))) ?_;rw[Q1a];exact⟨_,.refl _,rfl,⟨hlg'.imm,⟨_,(append_nil _).symm⟩,hlg'.tok⟩,rfl⟩
    obtain⟨_,rfl,-⟩:=hv;refine⟨λ v U'=>v=.int .i64 (Qg1 ky (b.sc k):Nat)/\F1 U',λ v U1 U2 hF hle=>⟨hF.1,hF.2.1.trans hle.lg,hle.own.trans hF.2.2⟩,λ v U' hF=>hF.2.1,λ U' hC=>?_,λ v hv=>?_⟩
    .obtain⟨-,hlg',hM'⟩:=hC
     conv=>whnf
     refine Qke (k:=ky) (l:=Qq1 ky (.int .i64 0) (toV (b.sc k))) Qip Qfp Qgf rfl hkey (.inr (by rw[hM'];simp)) ?_;rw[Zsf,Q1a];exact⟨_,.refl _,rfl,hlg',hM'⟩
    obtain⟨_,rfl,-⟩:=hv;refine⟨hinc,?_⟩
    conv=>whnf
    rintro U'⟨-,hF⟩;exact⟨rfl,by trivial,hF⟩
  rintro f' ds' U8⟨rfl,hfr,hlg_8,hM_8⟩;rw[<- hfr.ovr];clear hfr;have hM9:List Qv:=[Bd,D]++(.obj b6 (.cells #[.int .i64 ((k:Int)+1)] 3 (0,0))::.obj wb (.cells (Wg b k 0).toArray 3 (0,0))::.obj mb (Qt Qdo (toV (b.sc (k+1))))::U.M)
  conv=>whnf
  refine Qv1 (n:=Q1f ky (toV (b.sc k))) (l:=Qq1 ky (.int .i64 0) (toV (b.sc k))) (v:=.int .i64 ((Qg1 ky (b.sc k)+1:Nat):Int)) (M':=[Bd,D]++(.obj b6 (.cells #[.int .i64 ((k:Int)+1)] 3 (0,0))::.obj wb (.cells (Wg b k 0).toArray 3 (0,0))::.obj mb (Qt Qdo (toV (b.sc (k+1))))::U.M)) rfl rfl hups.2 rfl (by rw[hM_8,hups.1];exact .there (.there (.there (.there .here)))) ?_
  conv=>whnf
  intro a' hf';refine⟨by rw[hf'.size,hfr0.size],_,hf'.get,?_⟩;rw[hf'.ds];clear hf' hfr0;have hb7₈:=hb7.imI hlg_8.imm;have hb5₈:=hb5₇.imI hlg_8.imm;have hI_8:∀x o,U₀.I x=some o->U8.I x=some o:=λ x o h=>hlg_8.imm x o (hI7 x o h);have htk8:U8.tok=U₀.tok:=hlg_8.tok.trans htk;generalize hU9:({ U8 with M:=[Bd,D]++(.obj b6 (.cells #[.int .i64 ((k:Int)+1)] 3 (0,0))::.obj wb (.cells (Wg b k 0).toArray 3 (0,0))::.obj mb (Qt Qdo (toV (b.sc (k+1))))::U.M) }:Qa T)=U9;have hM_9:U9.M=[Bd,D]++(.obj b6 (.cells #[.int .i64 ((k:Int)+1)] 3 (0,0))::.obj wb (.cells (Wg b k 0).toArray 3 (0,0))::.obj mb (Qt Qdo (toV (b.sc (k+1))))::U.M):=by rw[<- hU9]
  have hI_9:∀x o,U₀.I x=some o->U9.I x=some o:=by rw[<- hU9];exact hI_8
  have hb7₉:Zd U9 b7 (Qbj (.slice a o.length cap) (W2 (b.ends o).1) (J3 (b.ends o).2)).toArray:=by rw[<- hU9];exact hb7₈
  have hb5₉:Zd U9 b5 #[.slice (some ⟨wb,0,none⟩) h.cl h.cl]:=by rw[<- hU9];exact hb5₈
  have ht_9:U9.tok=U₀.tok:=by rw[<- hU9];exact htk8
  clear hU9 hM9 hM_8 hlg_8 hb7₈ hb5₈ hI_8 htk8 hb4f hrd7 hb4₇ hb5₇ hb7 hM_7 hI_7 hI7 ht_7 htk hM6 hI6 ht6 F0 F1;have hlens:=b.ends_len o;have hw5:J3 (b.ends o).2<2^5:=Q1v _ (by omega);have hw60:J3 (b.ends o).2<2^60:=Nat.lt_trans hw5 (by decide);refine⟨_,hb5₉.sees3 (o:=0) rfl,Nat,λ i=>[(5,.pointer (some ⟨b5,0,none⟩)),(7,.pointer (some ⟨b7,0,none⟩)),(35,.int .i64 h.cl),(36,.int .i64 i)],
   λ i U'=>U9.frz.lg U'/\U'.M=[Bd,D]++(.obj b6 (.cells #[.int .i64 ((k:Int)+1)] 3 (0,0))::.obj wb (.cells (Wg b k i).toArray 3 (0,0))::.obj mb (Qt Qdo (toV (b.sc (k+1))))::U.M)/\i<=h.cl,λ i=>h.cl-i,0,by trivial,⟨Qq,hM_9,by omega⟩,?_⟩
  rintro i f Ua⟨hla,hMa,hi⟩;have hin:Zm ((i:Int)+1):=by unfold Zm;omega
  repeat refine⟨rfl,?_⟩
  conv=>whnf
  apply Qe<;>intro hc
  .have hlt:i<h.cl:=by simpa using hc
   have hwc:=b.wc_le k i;have hval:=Qf8 (b:=b) (k:=k) (i:=i) (j:=i) (by omega);rw[if_neg (by omega)]at hval
   have hwv:Ua.sees ((Addr.mk wb 0 none).add (i*1)) (.int .i64 (b.wc k i:Nat)):=by
    rw[Nat.mul_one];exact Q7 [Bd,D,_] hMa i _ hval
   have hbv:=Zr9 hw60 (show i<60 by omega);rw[Qij]at hbv
   have hinr:Zm ((b.wc k i:Nat)+IntKind.wrap .i64 ((BitVec.ofInt (IntKind.bits .i64) (Int.fdiv (J3 (b.ends o).2:Int) (2^(min ((i:Int).toNat) (IntKind.bits .i64))))&&&BitVec.ofInt (IntKind.bits .i64) 1).toNat:Int)):=by
    rw[hbv];unfold Zm;split <;> omega
   have e2:((b.wc k i:Nat):Int)+IntKind.wrap .i64 ((BitVec.ofInt (IntKind.bits .i64) (Int.fdiv (J3 (b.ends o).2:Int) (2^(min ((i:Int).toNat) (IntKind.bits .i64))))&&&BitVec.ofInt (IntKind.bits .i64) 1).toNat:Int)=((b.wc (k+1) i:Nat):Int):=by
    rw[hbv,b.wc_succ ho i];simp
   refine⟨_,(hb5₉.imI hla.imm).sees3 (o:=0) rfl,⟨wb,0,none⟩,i,⟨rfl,rfl,hlt⟩,_,hwv,_,(hb7₉.imI hla.imm).sees3 (o:=7) rfl,by omega,rfl,?_⟩
   conv=>whnf
   intro Ub hlb _;have hMb:=hlb.own.trans hMa;refine⟨hinr,?_⟩;rw[e2];refine⟨⟨wb,0,none⟩,i,⟨rfl,rfl,hlt⟩,rfl,?_⟩;rw[Nat.mul_one];refine Qbk (i:=i) (v:=.int .i64 (b.wc (k+1) i:Nat)) [Bd,D,_] hMb (by simp[Wg];omega) rfl λ Uc hIc htc hMc=>?_;rw[Zjy b k i (by omega)]at hMc;have hlc:U9.frz.lg Uc:=⟨λ x o h=>by rw[hIc];exact hlb.imm x o (hla.imm x o h),⟨_,(append_nil _).symm⟩,htc.trans (hlb.tok.trans hla.tok)⟩;refine⟨hin,?_⟩
   conv=>whnf
   exact⟨rfl,i+1,by trivial,⟨hlc,hMc,by omega⟩,by show _-_<_-_;omega⟩
  .have hge:i=b.cs.length:=by simp at hc;omega
   subst hge;rw[Zjx]at hMa
   have e3:Ua=({ Ua with M:=.obj b6 (.cells #[.int .i64 ((k:Int)+1)] 3 (0,0))::.obj wb (.cells (Wg b (k+1) 0).toArray 3 (0,0))::.obj mb (Qt Qdo (toV (b.sc (k+1))))::U.M }:Qa T).on Bd D:=by
    obtain⟨i1,m1,t1⟩:=Ua;simp only[Qa.on]at hMa ⊢;rw[hMa];rfl
   have hl2:U₀.frz.lg ({ Ua with M:=.obj b6 (.cells #[.int .i64 ((k:Int)+1)] 3 (0,0))::.obj wb (.cells (Wg b (k+1) 0).toArray 3 (0,0))::.obj mb (Qt Qdo (toV (b.sc (k+1))))::U.M }:Qa T):=⟨λ x o h=>hla.imm x o (hI_9 x o h),⟨_,(append_nil _).symm⟩,hla.tok.trans ht_9⟩;have hl3:=hl.frz2.trans hl2
   conv=>whnf
   rw[e3];exact hKN _ _ _ hl2 ⟨hl3,rfl⟩
 .rintro d l OA U3' ⟨hl,hM⟩;have hM5:(U3'.on (.obj l OA) (.obj d (.deferred (some [])))).M=[.obj l OA,.obj d (.deferred (some []))]++(.obj b6 (.cells #[.int .i64 (b.all.length:Nat)] 3 (0,0))::.obj wb (.cells (Wg b b.all.length 0).toArray 3 (0,0))::.obj mb (Qt Qdo (toV (b.sc b.all.length)))::U.M):=by show _::_::U3'.M=_;rw[hM];rfl
  have hI5:∀x o,U4.I x=some o->(U3'.on (.obj l OA) (.obj d (.deferred (some [])))).I x=some o:=hl.imm;have ht5:(U3'.on (.obj l OA) (.obj d (.deferred (some [])))).tok=U4.tok:=hl.tok;generalize(U3'.on (.obj l OA) (.obj d (.deferred (some []))))=U5 at hM5 hI5 ht5 ⊢;have hB5:Zd U5 B #[.slice h.ra h.rl h.rc,.slice h.ca h.cl h.cc]:=hB.imI λ x o h=>hI5 x o (hlg_4.imm x o h);have hb4₅:Zd U5 b4 #[.map (some mb)]:=hb4.imI hI5;have hb5₅:Zd U5 b5 #[.slice (some ⟨wb,0,none⟩) h.cl h.cl]:=hb5.imI hI5;have hI5':∀x o,U.I x=some o->U5.I x=some o:=λ x o h=>hI5 x o (hf_4.imm x o h);have ht5':U5.tok=U.tok:=ht5.trans ht4;obtain⟨hscl,hscn,hsum⟩:=b.sc_facts b.all.length;rw[take_length]at hsum;generalize hBa:[.obj l OA,.obj d (.deferred (some []))]++(.obj b6 (.cells #[.int .i64 (b.all.length:Nat)] 3 (0,0))::.obj wb (.cells (Wg b b.all.length 0).toArray 3 (0,0))::.obj mb (Qt Qdo (toV (b.sc b.all.length)))::U.M)=Ba at hM5;have hmbB:Qv.obj mb (Qt Qdo (toV (b.sc b.all.length)))∈Ba:=by rw[<- hBa];simp
  clear hl hM hit Inv;refine⟨_,hB5.sees3 (o:=0) rfl,Nat×Value,λ y=>[(2,y.2),(3,.slice none 0 0),(4,.pointer (some ⟨b4,0,none⟩)),(5,.pointer (some ⟨b5,0,none⟩)),(6,.pointer (some ⟨b6,0,none⟩)),(54,.int .i64 h.rl),(55,.int .i64 y.1)],
   λ y U'=>U5.frz.lg U'/\(∃A,U'.M=A++Ba/\Jx 39 1 y.2 (((range y.1).map b.fatR).map λ n=>.int .i64 n) A)/\y.1<=h.rl,λ y=>h.rl-y.1,(0,.slice none 0 0),by trivial,⟨Qq,⟨[],hM5,.nil⟩,by omega⟩,?_⟩
  rintro⟨r,v⟩f Ua⟨hla,⟨A,hMa,hacc⟩,hr⟩;simp only at hacc hr;obtain⟨sa,sl,sc,rfl,hsl⟩:=hacc.src;have hin:Zm ((r:Int)+1):=by unfold Zm;omega
  repeat refine⟨rfl,?_⟩
  conv=>whnf
  apply Qe<;>intro hc
  .have hrt:r<h.rl:=by simpa using hc
   have hr6:r<6:=by omega
   refine⟨_,(hb4₅.imI hla.imm).sees3 (o:=0) rfl,?_⟩
   conv=>whnf
   refine Qoy (enc:=Qdo) (l:=toV (b.sc b.all.length)) Qfp rfl (.inr (by rw[hMa];exact mem_append_right _ hmbB)) λ it hitf=>?_
   refine⟨Array Nat,λ seen=>[(2,.slice sa sl sc),(3,.slice none 0 0),(4,.pointer (some ⟨b4,0,none⟩)),(5,.pointer (some ⟨b5,0,none⟩)),(6,.pointer (some ⟨b6,0,none⟩)),(9,.int .i64 r),(10,.int .i64 (Qvx (λ k:Six=>W2 k.1 r) (b.sc b.all.length) seen.toList:Nat)),(54,.int .i64 h.rl),(55,.int .i64 r),(59,.pointer (some ⟨it,0,none⟩))],
    λ seen U'=>U5.frz.lg U'/\U'.M=.obj it (J1 mb (toV (b.sc b.all.length)).length seen)::(A++Ba)/\seen.toList.Nodup/\∀i∈seen.toList,i<(b.sc b.all.length).length,λ seen=>(b.sc b.all.length).length-seen.size,#[],by trivial,⟨hla.trans (Z0 _ _),by show _::Ua.M=_;rw[hMa],by simp,by simp⟩,?_⟩
   rintro seen f Ub⟨hlb,hMb,hnd,hlt⟩
   have hslen:seen.size<=(b.sc b.all.length).length:=by
    have:=Qbi hnd hlt;simpa using this
   have hmet:=Zfm (q:=λ k:Six=>W2 k.1 r) hscn seen.toList;have hmet2:seen.toList.length*b.all.length<=3125*3125:=Nat.mul_le_mul (by rw[Array.length_toList];omega) hN
   conv=>whnf
   refine Qv2 (enc:=Qdo) (l:=toV (b.sc b.all.length)) (λ o=>.obj it o::(A++Ba)) rfl (.inr (by rw[hMb];exact mem_cons_of_mem _ (mem_append_right _ hmbB))) (λ o=>by rw[hMb];exact .here) (λ hall=>?_) (λ i p hp hni=>?_)
   .have hfin:Qvx (λ k:Six=>W2 k.1 r) (b.sc b.all.length) seen.toList=b.all.countP λ o=>(b.ends o).1.getD r false:=by
     rw[Zn5 hnd hlt (λ i hi=>by have:=hall i (by rw[Zra];exact hi);simpa using this),hsum];congr 1;funext o;exact Zom _ hr6
    have hsay:Q6n (Qvx (λ k:Six=>W2 k.1 r) (b.sc b.all.length) seen.toList) b.all.length=b.fatR r:=by rw[hfin];rfl
    have hb6:=Q7 (U:=Ub) (b:=b6) (e:=3) (vs:=[.int .i64 (b.all.length:Nat)]) (.obj it (J1 mb (toV (b.sc b.all.length)).length seen)::(A++[.obj l OA,.obj d (.deferred (some []))])) (by rw[hMb,<- hBa];simp;rfl)
    repeat refine⟨rfl,?_⟩
    refine⟨_,hb6 0 _ rfl,Qsv.any,(Qpg _ _).go λ _=>?_⟩;rw[hsay]
    conv=>whnf
    intro bn hfn;refine Q1g (M':=A++Ba) hfn (by rw[hMb];exact sublist_cons_self ..) λ Ud hId htd hMd hbn=>?_;have hbn:Zd Ud bn #[.int .i64 (b.fatR r)]:=hbn;have hld:U5.frz.lg Ud:=⟨λ x o h=>hId x o (hlb.imm x o h),⟨_,(append_nil _).symm⟩,htd.trans hlb.tok⟩
    conv=>whnf
    refine Ws (v:=.slice sa sl sc) (cs:=((range r).map b.fatR).map λ n=>.int .i64 n) (new:=[.int .i64 (b.fatR r)]) (M₀:=Ba) Qyr rfl rfl (by rw[hMd];exact hacc _) (.inr ⟨_,rfl,hbn.reads (λ k v hv=>by simpa using hv)⟩) rfl (by simp[Value.single]) (by simp;omega) λ v' M' ha' _=>?_;have ha':Acc 39 1 v' (((range (r+1)).map b.fatR).map λ n=>.int .i64 n) M' Ba:=by rw[range_succ];simpa using ha'
    obtain⟨A_2,hM',ha_2⟩:=ha'.split;obtain⟨ta,tl,tc,rfl,-⟩:=ha_2.src;refine⟨hin,?_⟩
    conv=>whnf
    exact⟨rfl,(r+1,.slice ta tl tc),by trivial,⟨⟨hld.imm,⟨_,(append_nil _).symm⟩,hld.tok⟩,⟨A_2,hM',ha_2⟩,by show r+1<=h.rl;omega⟩,by show _-_<_-_;omega⟩
   .obtain⟨q,hq,rfl⟩:=Zss hp;have hqn:q.2<=3125:=Nat.le_trans (hscn q (mem_of_getElem? hq)) hN;have hil:=(List.getElem?_eq_some_iff.1 hq).1;have hpush:=Zi8 (q:=λ k:Six=>W2 k.1 r) (seen:=seen) hq
    have hnd':(seen.push i).toList.Nodup:=by
     rw[Array.toList_push,nodup_append];refine⟨hnd,by simp,λ x hx y hy=>?_⟩;rw[mem_singleton.1 hy];rintro rfl;exact hni (by simpa using hx)
    have hlt':∀j∈(seen.push i).toList,j<(b.sc b.all.length).length:=by
     intro j hj;rw[Array.toList_push,mem_append]at hj;rcases hj with hj|hj
     .exact hlt j hj
     .rw[mem_singleton.1 hj];exact hil
    have hdec:(b.sc b.all.length).length-(seen.push i).size<(b.sc b.all.length).length-seen.size:=by
     have:=Qbi hnd' hlt';rw[Array.length_toList,Array.size_push]at this;rw[Array.size_push];omega
    have hlb':U5.frz.lg ({ Ub with M:=.obj it (J1 mb (toV (b.sc b.all.length)).length (seen.push i))::(A++Ba) }:Qa T):=⟨hlb.imm,⟨_,(append_nil _).symm⟩,hlb.tok⟩;generalize hUc:({ Ub with M:=.obj it (J1 mb (toV (b.sc b.all.length)).length (seen.push i))::(A++Ba) }:Qa T)=Uc at hlb' ⊢;have hMc:Uc.M=.obj it (J1 mb (toV (b.sc b.all.length)).length (seen.push i))::(A++Ba):=by rw[<- hUc]
    clear hUc
    repeat refine⟨rfl,?_⟩
    conv=>whnf
    refine Qox (enc:=Qdo) (l:=toV (b.sc b.all.length)) rfl (.inr (by rw[hMc];exact mem_cons_of_mem _ (mem_append_right _ hmbB))) (.inr (by rw[hMc];exact mem_cons_self ..)) hp ?_
    conv=>whnf
    intro b11 hf11;refine⟨_,.refl _,rfl,Zs (vs:=Qaj (W2 q.1.1)) hf11 rfl (Qie _) λ Ud h_d hb11=>?_⟩;refine⟨_,⟨rfl,hb11.reads (λ k v hv=>by simpa using hv)⟩,?_⟩
    conv=>whnf
    intro b13 hf13;refine⟨_,.refl _,rfl,Qgn (vs:=Qaj (W2 q.1.1)) rfl (Qie _) ?_⟩;refine⟨r,⟨rfl,hr6⟩,rfl,?_⟩;rw[Nat.mul_one];refine Zq8 (c:=(Qaj (W2 q.1.1)).toArray) (v:=.bool true) hf13 hr6 rfl λ Ue h_e hb13=>?_;rw[Q6q _ hr6]at hb13;have hb11:=hb11.le h_e;have hle2:=h_d.trans h_e;refine⟨_,⟨rfl,hb11.reads (λ k v hv=>by simpa using hv)⟩,?_⟩;refine⟨_,⟨rfl,hb13.reads (λ k v hv=>by simpa using hv)⟩,?_⟩
    conv=>whnf
    obtain⟨eT,inf88,a1,a2,a3,a4,a5⟩:=Qmy.h;refine Zqt a1 a2 rfl a3 a4 a5 (vs:=Qaj (W2 q.1.1)) (ws:=Qaj (Q6g (W2 q.1.1) r true)) rfl rfl rfl rfl (Qo0 _) (Qo0 _) ?_;rw[Zp2 hr6];have hMe:=hle2.own.trans hMc;have hle':U5.frz.lg Ue:=hlb'.trans hle2.lg;cases hst:W2 q.1.1 r with
    |true=>
     rw[if_pos hst]at hpush;refine⟨by unfold Zm;omega,?_⟩
     conv=>whnf
     exact⟨rfl,seen.push i,⟨rfl,rfl,rfl,rfl,rfl,rfl,by rw[hpush];rfl,rfl,rfl,rfl,trivial⟩,⟨hle',hMe,hnd',hlt'⟩,hdec⟩
    |false=>
     rw[if_neg (by rw[hst];simp),Nat.add_zero]at hpush
     conv=>whnf
     exact⟨rfl,seen.push i,⟨rfl,rfl,rfl,rfl,rfl,rfl,by rw[hpush];rfl,rfl,rfl,rfl,trivial⟩,⟨hle',hMe,hnd',hlt'⟩,hdec⟩
  .have hge:r=b.rs.length:=by simp at hc;omega
   subst hge;have hacc:Jx 39 1 (.slice sa sl sc) (b.fatesR.map λ n=>.int .i64 n) A:=hacc;refine⟨_,(hb5₅.imI hla.imm).sees3 (o:=0) rfl,Nat×Value,λ y=>[(2,.slice sa sl sc),(3,y.2),(6,.pointer (some ⟨b6,0,none⟩)),(81,.slice (some ⟨wb,0,none⟩) h.cl h.cl),(82,.int .i64 h.cl),(83,.int .i64 y.1)],
    λ y U'=>U5.frz.lg U'/\(∃A2,U'.M=A2++(A++Ba)/\Jx 39 1 y.2 (((range y.1).map b.fatC).map λ n=>.int .i64 n) A2)/\y.1<=h.cl,λ y=>h.cl-y.1,(0,.slice none 0 0),by trivial,⟨hla,⟨[],hMa,.nil⟩,by omega⟩,?_⟩
   rintro⟨i,v⟩f Ub⟨hlb,⟨A2,hMb,hacc2⟩,hi⟩;simp only at hacc2 hi;obtain⟨ua,ul,uc,rfl,hul⟩:=hacc2.src;have hin:Zm ((i:Int)+1):=by unfold Zm;omega
   repeat refine⟨rfl,?_⟩
   conv=>whnf
   apply Qe<;>intro hc
   .have hit:i<h.cl:=by simpa using hc
    have hrw:=Q7 (U:=Ub) (b:=wb) (e:=3) (vs:=Wg b b.all.length 0) (A2++A++[.obj l OA,.obj d (.deferred (some [])),.obj b6 (.cells #[.int .i64 (b.all.length:Nat)] 3 (0,0))]) (by rw[hMb,<- hBa];simp;rfl);have hr6:=Q7 (U:=Ub) (b:=b6) (e:=3) (vs:=[.int .i64 (b.all.length:Nat)]) (A2++A++[.obj l OA,.obj d (.deferred (some []))]) (by rw[hMb,<- hBa];simp;rfl);have hval:=Qf8 (b:=b) (k:=b.all.length) (i:=0) (j:=i) (by omega);rw[if_neg (by omega)]at hval
    have hwv:Ub.sees ((Addr.mk wb 0 none).add (i*1)) (.int .i64 (b.wc b.all.length i:Nat)):=by
     rw[Nat.mul_one];exact hrw i _ hval
    have hsay:Q6n (b.wc b.all.length i) b.all.length=b.fatC i:=by unfold Bk.wc;rw[take_length];rfl
    refine⟨⟨wb,0,none⟩,i,⟨rfl,rfl,hit⟩,_,hwv,_,hr6 0 _ rfl,Qsv.any,(Qpg _ _).go λ _=>?_⟩;rw[hsay]
    conv=>whnf
    intro bn hfn;refine Zk hfn λ Ud hd hbn=>?_;have hbn:Zd Ud bn #[.int .i64 (b.fatC i)]:=hbn;have hld:=hlb.trans hd.lg
    conv=>whnf
    refine Ws (v:=.slice ua ul uc) (cs:=((range i).map b.fatC).map λ n=>.int .i64 n) (new:=[.int .i64 (b.fatC i)]) (M₀:=A++Ba) Qyr rfl rfl (by rw[hd.own,hMb];exact hacc2 _) (.inr ⟨_,rfl,hbn.reads (λ k v hv=>by simpa using hv)⟩) rfl (by simp[Value.single]) (by simp;omega) λ v' M' ha' _=>?_;have ha':Acc 39 1 v' (((range (i+1)).map b.fatC).map λ n=>.int .i64 n) M' (A++Ba):=by rw[range_succ];simpa using ha'
    obtain⟨A_2,hM',ha_2⟩:=ha'.split;obtain⟨ta,tl,tc,rfl,-⟩:=ha_2.src;refine⟨hin,?_⟩
    conv=>whnf
    exact⟨rfl,(i+1,.slice ta tl tc),by trivial,⟨⟨hld.imm,⟨_,(append_nil _).symm⟩,hld.tok⟩,⟨A_2,hM',ha_2⟩,by show i+1<=h.cl;omega⟩,by show _-_<_-_;omega⟩
   .have hge:i=b.cs.length:=by simp at hc;omega
    subst hge;have hacc2:Jx 39 1 (.slice ua ul uc) (b.fatesC.map λ n=>.int .i64 n) A2:=hacc2;subst hBa;refine⟨A2++(A++([.obj l OA,.obj d (.deferred none),.obj b6 (.cells #[.int .i64 (b.all.length:Nat)] 3 (0,0)),.obj wb (.cells (Wg b b.all.length 0).toArray 3 (0,0)),.obj mb (Qt Qdo (toV (b.sc b.all.length)))]++U.M)),by rw[hMb];exact Qdw (Qdw (.there .here) _) _,?_⟩
    conv=>whnf
    exact⟨_,_,_,_,rfl,hacc2 _,hacc _,λ x o hx=>hlb.imm x o (hI5' x o hx),hlb.tok.trans ht5'⟩
 .exact λ _ _ _ _ _ h=>h.elim
 .exact λ _ _ _ _ h=>h.elim
end Go.Proofs
namespace Go.TM
variable{T:Type}{P:Program}{S:Sys P T}{U:Qa T}
def J0.nil:J0 U (.slice none 0 0) []:=⟨none,0,rfl,rfl,λ i x h=>by simp at h⟩
def BH.zero:BH:=⟨none,0,0,none,0,0⟩
def Bk.askF(b:Bk)(r:Int):Int:=if b.flaw Zf=0 then(if W1 r 0 (b.nr-1)then 0 else 6)else b.flaw Zf
def Bk.askF_ok{b:Bk}{r:Int}(h:b.askF r=0):b.Ok/\0<=r/\r<b.nr:=by
 unfold Bk.askF at h;split at h
 .rename_i h1;split at h
  .rename_i h2;simp only[W1,Bool.and_eq_true,decide_eq_true_eq]at h2;exact⟨Bk.ok_of h1,by omega,by omega⟩
  .cases h
 .rename_i h1;exact absurd h h1
end Go.TM
namespace Go.Proofs
open Go.TM
variable{T:Type}{S:TM.Sys prog T}{U:Qa T}
attribute [local irreducible] Qb Zh We
def Qje(h:BH)(b:Bk)(hb:Zt U.frz h b)(hk:Chk U):Qb S 14 #[h.v] (λ v U'=>(∃v1 v2,v=.tuple #[v1,v2,.int .i64 (b.flaw Zf)]/\J0 U'.frz v1 (if b.flaw Zf=0 then b.fatesR else[])/\J0 U'.frz v2 (if b.flaw Zf=0 then b.fatesC else[]))/\U.le U') U:=by
 refine Qb.grown (R:=λ v U'=>∃v1 v2,v=.tuple #[v1,v2,.int .i64 (b.flaw Zf)]/\J0 U' v1 (if b.flaw Zf=0 then b.fatesR else[])/\J0 U' v2 (if b.flaw Zf=0 then b.fatesC else[])) (λ v U1 U2 hl⟨v1,v2,e,h1,h2⟩=>⟨v1,v2,e,h1.lg hl,h2.lg hl⟩) (Qb.of (args:=[_]) Qsd Qd (by simp) ?_)
 repeat refine⟨rfl,?_⟩
 conv=>whnf
 intro B U1 h_1 hB;have hB:Zd U1 B #[.slice h.ra h.rl h.rc,.slice h.ca h.cl h.cc]:=hB;refine⟨_,⟨rfl,hB.reads (λ k v hv=>by simpa using hv)⟩,?_⟩;refine⟨Qks.any,(Qa4 h b ((hb.lg h_1.lg.frz2).lg Qq) (hk.lg h_1.lg)).go λ _=>?_⟩
 repeat refine⟨rfl,?_⟩
 conv=>whnf
 apply Qe<;>intro hc
 .have hf:b.flaw Zf≠0:=by simpa using hc
  repeat refine⟨rfl,?_⟩
  conv=>whnf
  rw[if_neg hf,if_neg hf];exact⟨⟨_,_,rfl,.nil,.nil⟩,h_1.lg⟩
 have hf:b.flaw Zf=0:=by simpa using hc
 rw[if_pos hf,if_pos hf,hf];refine⟨_,⟨rfl,hB.reads (λ k v hv=>by simpa using hv)⟩,?_⟩;refine⟨Qsm.any,(Qjk h b (hb.lg h_1.lg.frz2) (Bk.ok_of hf)).mono ?_⟩;rintro _ U2⟨⟨v1,v2,rfl,hv1,hv2⟩,h_2⟩-;obtain⟨a1,c1,rfl,h1⟩:=hv1;obtain⟨a2,c2,rfl,h2⟩:=hv2
 repeat refine⟨rfl,?_⟩
 conv=>whnf
 exact⟨⟨_,_,rfl,⟨a1,c1,rfl,h1⟩,⟨a2,c2,rfl,h2⟩⟩,(h_1.trans h_2).lg⟩
def Qb5(h:BH)(b:Bk)(hb:Zt U.frz h b)(hk:Chk U)(r:Int):Qb S 36 #[h.v,.int .i64 r] (λ v U'=>v=.tuple #[(if b.askF r=0 then h else BH.zero).v,.int .i64 (b.askF r)]/\U'=U) U:=by
 refine Qb.pure' (Qb.of (args:=[_,_]) Qhn Qd (by simp) ?_);have hrl:=hb.rs.1;have hrl':=hb.rl;have hnr:b.nr=(h.rl:Int):=by unfold Bk.nr;rw[hrl]
 repeat refine⟨rfl,?_⟩
 conv=>whnf
 intro B U1 h_1 hB;have hB:Zd U1 B #[.slice h.ra h.rl h.rc,.slice h.ca h.cl h.cc]:=hB
 conv=>whnf
 intro b4 hf4;refine⟨_,.refl _,?_⟩;have hBp:=hB.lg (Z0 b4 (.cells #[.slice none 0 0,.slice none 0 0] 90));refine⟨_,⟨rfl,hBp.reads (λ k v hv=>by simpa using hv)⟩,?_⟩;refine⟨Qks.any,(Qa4 h b (((hb.lg h_1.lg.frz2).lg Qq).lg (Z0 b4 _)) ((hk.lg h_1.lg).lg (Z0 b4 _))).go λ _=>?_⟩
 repeat refine⟨rfl,?_⟩
 conv=>whnf
 apply Qe<;>intro hc
 .have hf:b.flaw Zf≠0:=by simpa using hc
  have ha:b.askF r=b.flaw Zf:=by unfold Bk.askF;rw[if_neg hf]
  rw[ha,if_neg hf];refine⟨rfl,Zs (vs:=[.slice none 0 0,.slice none 0 0]) hf4 rfl (by simp[Value.single]) λ U2 h_2 hb4=>?_⟩;refine⟨_,⟨rfl,hb4.reads (λ k v hv=>by simpa using hv)⟩,?_⟩
  conv=>whnf
  exact⟨rfl,(h_1.trans h_2).lg⟩
 have hf:b.flaw Zf=0:=by simpa using hc
 have ha:b.askF r=if W1 r 0 ((h.rl:Int)-1)then 0 else 6:=by unfold Bk.askF;rw[if_pos hf,hnr]
 rw[ha];refine⟨_,hBp.sees3 (o:=0) rfl,by unfold Zm;omega,?_⟩;refine⟨Qfg.any,(Wt _ _ _ _).go λ _=>?_⟩;cases hbt:W1 r 0 ((h.rl:Int)-1)with
 |false=>
  refine⟨rfl,Zs (vs:=[.slice none 0 0,.slice none 0 0]) hf4 rfl (by simp[Value.single]) λ U2 h_2 hb4=>?_⟩;refine⟨_,⟨rfl,hb4.reads (λ k v hv=>by simpa using hv)⟩,?_⟩
  conv=>whnf
  exact⟨rfl,(h_1.trans h_2).lg⟩
 |true=>
  refine⟨_,⟨rfl,hBp.reads (λ k v hv=>by simpa using hv)⟩,?_⟩;refine⟨rfl,Zs (vs:=[.slice h.ra h.rl h.rc,.slice h.ca h.cl h.cc]) hf4 rfl (by simp[Value.single]) λ U2 h_2 hb4=>?_⟩;refine⟨_,⟨rfl,hb4.reads (λ k v hv=>by simpa using hv)⟩,?_⟩
  conv=>whnf
  exact⟨rfl,(h_1.trans h_2).lg⟩
def Qcx(h:BH)(b:Bk)(hb:Zt U.frz h b)(hok:b.Ok)(r:Nat)(hr:r<b.rs.length):Qb S 42 #[h.v,.int .i64 r] (λ v U'=>v=.int .i64 (b.fatR r)/\U'=U) U:=by
 refine Qb.pure' (Qb.of (args:=[_,_]) Qff Qd (by simp) ?_)
 repeat refine⟨rfl,?_⟩
 conv=>whnf
 intro B U1 h_1 hB;have hB:Zd U1 B #[.slice h.ra h.rl h.rc,.slice h.ca h.cl h.cc]:=hB;refine⟨_,⟨rfl,hB.reads (λ k v hv=>by simpa using hv)⟩,?_⟩;refine⟨Qsm.any,(Qjk h b (hb.lg h_1.lg.frz2) hok).mono ?_⟩;rintro _ U2⟨⟨v1,v2,rfl,hv1,hv2⟩,h_2⟩-;obtain⟨a1,c1,rfl,h1⟩:=hv1;obtain⟨a2,c2,rfl,h2⟩:=hv2;have hlen:b.fatesR.length=b.rs.length:=by simp[Bk.fatesR]
 obtain⟨ad,x,hx,rfl,-,hs⟩:=h1.at (show r<b.fatesR.length by omega)
 have hxr:x=b.fatR r:=by
  unfold Bk.fatesR at hx;rw[getElem?_map,getElem?_range hr]at hx;exact(Option.some.inj hx).symm
 subst hxr
 repeat refine⟨rfl,?_⟩
 refine⟨ad,r,⟨rfl,rfl,by omega⟩,_,hs.lg Qq,?_⟩
 repeat refine⟨rfl,?_⟩
 conv=>whnf
 exact(h_1.trans h_2).lg
end Go.Proofs
namespace Go.TM
variable{T:Type}{P:Program}{S:Sys P T}{U:Qa T}
def Qa1(U:Qa T)(v:Value)(l:List Bool):Prop:=∃a cap,v=.slice a l.length cap/\∀(i:Nat)x,l[i]?=some x->∃ad,a=some ad/\ad.spot=none/\U.sees (ad.add (i*1)) (.bool x)
def Qa1.lg{U':Qa T}{v:Value}{l:List Bool}(h:Qa1 U v l)(k:U.lg U'):Qa1 U' v l:=let ⟨a,c,e,h⟩:=h;⟨a,c,e,λ i x hx=>let ⟨ad,e',s,r⟩:=h i x hx;⟨ad,e',s,r.lg k⟩⟩
def Qa1.nil:Qa1 U (.slice none 0 0) []:=⟨none,0,rfl,λ i x h=>by simp at h⟩
def Ziu{a:Option Addr}{l:List Bool}{cap:Nat}(h:Src U a (l.map .bool))(hsp:∀ad,a=some ad->ad.spot=none):Qa1 U (.slice a l.length cap) l:=by
 refine⟨a,cap,rfl,λ i x hx=>?_⟩;rcases h with⟨_,hn⟩|⟨ad,rfl,hr⟩
 .rw[map_eq_nil_iff]at hn;subst hn;simp at hx
 .exact⟨ad,rfl,hsp ad rfl,by rw[Nat.mul_one];exact hr i _ (by simp[hx])⟩
def Zd.bools{b:Nat}{c:Array Value}{l:List Bool}{cap:Nat}(h:Zd U b c)(hc:∀(i:Nat)(x:Bool),l[i]?=some x->c[i]?=some (.bool x)):Qa1 U (.slice (some ⟨b,0,none⟩) l.length cap) l:=
 ⟨_,_,rfl,λ i x hx=>⟨_,rfl,rfl,by rw[Nat.mul_one,Qo];exact h.sees (by rw[Nat.zero_add];exact hc i x hx)⟩⟩
def Bk.ordL_cons(b:Bk)(o:List Nat)(i:Int)(l:List Int):b.ordL o (i::l)=if W1 i 0 (b.nc-1)then(if i.toNat∈o then 5 else if(Ji b.A i.toNat).all (λ k=>o.contains k)then b.ordL (o++[i.toNat]) l else 7)else 6:=rfl
def Bk.outF(b:Bk)(l:List Int):Int:=if b.flaw Zf=0 then b.ordF l else b.flaw Zf
def Zen(w:List Bool):((range w.length).map λ k=>Value.bool ((J3 w).testBit k))=w.map .bool:=by
 apply ext_getElem?;intro i;rw[getElem?_map,getElem?_map];by_cases h:i<w.length
 .rw[getElem?_range h,getElem?_eq_getElem h];simp[Qij,getD_eq_getElem?_getD,getElem?_eq_getElem h]
 .rw[getElem?_eq_none (by simp;omega),getElem?_eq_none (by omega)];rfl
def Qb.lists2g{f:FuncId}{args:Array Value}{e:Nat}{cs:List Value}{R:Value->Qa T->Prop}{rest:List Value}(hR:∀v U1 U2,U1.lg U2->R v U1->R v U2)
  (h:Qb S f args (λ v U'=>∃v1 v2 A,v=.tuple (v1::v2::rest).toArray/\R v1 U'.frz/\Acc e 1 v2 cs U'.M (A++U.M)/\(∀x ox,U.I x=some ox->U'.I x=some ox)/\U'.tok=U.tok) U) :
  Qb S f args (λ v U'=>(∃v1 a len cap,v=.tuple (v1::.slice a len cap::rest).toArray/\R v1 U'.frz/\cs.length=len/\Src U'.frz a cs/\∀ad,a=some ad->ad.spot=none)/\U.le U') U:=by
 refine h.sep λ v U' hs⟨v1,v2,A,hv,h1,h2,hI,ht⟩=>?_;obtain⟨M',hsub,h2⟩:=h2.letgo;obtain⟨U'',k1,k2,a,len,cap,rfl,hl,hsrc,hsp,_⟩:=h2.freeze (U:={ U' with M:=U.M }) (U':={ U' with M:=M' }) (hs.sublist hsub) (λ _ _ h=>h) rfl;have hz:U'.frz.lg U''.frz:=⟨k2.imm,⟨[],rfl⟩,k2.tok⟩;exact⟨U'',(Z4 hsub).trans k1,⟨v1,a,len,cap,hv,hR _ _ _ hz h1,by omega,hsrc,hsp⟩,⟨λ x o h=>k2.imm x o (hI x o h),k2.own,k2.tok.trans ht⟩⟩
end Go.TM
namespace Go.Proofs
open Go.TM
variable{T:Type}{S:TM.Sys prog T}{U:Qa T}
attribute [local irreducible] Qb Zh We
set_option maxHeartbeats 1000000 in
def Qgr(h:BH)(b:Bk)(hb:Zt U.frz h b)(hk:Chk U)(a:Option Addr)(len cap:Nat)(l:List Int)(hl:Z3 U.frz a len l)(hlen:len<2^60) :
  Qb S 15 #[h.v,.slice a len cap] (λ v U'=>(∃v1 v2,v=.tuple #[v1,v2,.int .i64 (b.outF l)]/\Qa1 U'.frz v1 (if b.outF l=0 then(b.ends (l.map Int.toNat)).1 else[])/\Qa1 U'.frz v2 (if b.outF l=0 then(b.ends (l.map Int.toNat)).2 else[]))/\U.le U') U:=by
 refine(Qb.lists2g (e:=4) (cs:=(if b.outF l=0 then(b.ends (l.map Int.toNat)).2 else[]).map .bool) (R:=λ v U'=>Qa1 U' v (if b.outF l=0 then(b.ends (l.map Int.toNat)).1 else[])) (rest:=[.int .i64 (b.outF l)]) (λ v U1 U2 hl h=>h.lg hl) (Qb.of (args:=[_,_]) Qse Qd (by simp) ?_)).post λ v U'⟨⟨v1,a,len,cap,e,h1,h2,h3,h4⟩,hle⟩=>⟨U',.refl _,⟨v1,_,e,h1,by rw[length_map]at h2;rw[<- h2];exact Ziu h3 h4⟩,hle⟩;have hcl:=hb.cs.1;have hrl:=hb.rs.1;have hll:=hl.1
 repeat refine⟨rfl,?_⟩
 conv=>whnf
 intro B U1 h_1 hB;have hB:Zd U1 B #[.slice h.ra h.rl h.rc,.slice h.ca h.cl h.cc]:=hB;refine⟨_,⟨rfl,hB.reads (λ k v hv=>by simpa using hv)⟩,?_⟩;refine⟨Qks.any,(Qa4 h b ((hb.lg h_1.lg.frz2).lg Qq) (hk.lg h_1.lg)).go λ _=>?_⟩
 repeat refine⟨rfl,?_⟩
 conv=>whnf
 apply Qe<;>intro hc
 .have hf:b.flaw Zf≠0:=by simpa using hc
  have hF:b.outF l=b.flaw Zf:=by unfold Bk.outF;rw[if_neg hf]
  rw[hF,if_neg hf,if_neg hf]
  repeat refine⟨rfl,?_⟩
  conv=>whnf
  exact⟨_,_,[],rfl,.nil,by rw[h_1.own];exact .nil,h_1.imm,h_1.tok⟩
 have hf:b.flaw Zf=0:=by simpa using hc
 have hF:b.outF l=b.ordF l:=by unfold Bk.outF;rw[if_pos hf]
 have hok:=Bk.ok_of hf;have hnc:=hok.nc;have hnr:=hok.nr;rw[hF];refine⟨_,hB.sees3 (o:=1) rfl,?_⟩
 repeat refine⟨rfl,?_⟩
 conv=>whnf
 apply Qe<;>intro hc
 .have hne:l.length≠b.cs.length:=by simp at hc;omega
  have hF2:b.ordF l=2:=by unfold Bk.ordF;rw[if_pos hne]
  rw[hF2]
  repeat refine⟨rfl,?_⟩
  conv=>whnf
  exact⟨_,_,[],rfl,.nil,by rw[h_1.own];exact .nil,h_1.imm,h_1.tok⟩
 have heq:l.length=b.cs.length:=by simp at hc;omega
 have hF2:b.ordF l=b.ordL [] l:=by unfold Bk.ordF;rw[if_neg (by omega)]
 rw[hF2];refine⟨_,⟨rfl,hB.reads (λ k v hv=>by simpa using hv)⟩,?_⟩
 conv=>whnf
 intro b8 hf8;refine⟨_,.refl _,rfl,Zs (vs:=[.slice h.ra h.rl h.rc,.slice h.ca h.cl h.cc]) hf8 rfl (by simp[Value.single]) λ U2 h_2 hb8=>?_⟩;have hle_2:=h_1.trans h_2;refine⟨_,⟨rfl,hb8.reads (λ k v hv=>by simpa using hv)⟩,?_⟩;refine⟨Qsn.any,(Qpd h b ((hb.lg hle_2.lg.frz2).lg Qq) hnr).go λ _=>?_⟩;have hw0:J3 b.ini.2=0:=Qzw _
 conv=>whnf
 intro b9 hf9;refine⟨_,.refl _,rfl,Qgn (vs:=Qbj (.slice none 0 0) (W2 b.ini.1) 0) rfl (by simp[Qbj,Value.single]) ?_⟩;have hB2:Zd U2 B #[.slice h.ra h.rl h.rc,.slice h.ca h.cl h.cc]:=hB.le h_2;have hf_2:U.frz.lg U2.frz:=hle_2.lg.frz2
 refine⟨Nat×Option Addr×Nat,λ y=>[(1,.slice a len cap),(2,.pointer (some ⟨B,0,none⟩)),(8,.pointer (some ⟨b8,0,none⟩)),(9,.pointer (some ⟨b9,0,none⟩)),(28,.slice a len cap),(29,.int .i64 len),(30,.int .i64 y.1)],
  λ y U'=>U2.frz.lg U'/\U'.M=.obj b9 (.cells (Qbj (.slice y.2.1 y.1 y.2.2) (W2 (b.ends ((l.take y.1).map Int.toNat)).1) (J3 (b.ends ((l.take y.1).map Int.toNat)).2)).toArray 106 (0,0))::U.M/\y.1<=len/\Z3 U'.frz y.2.1 y.1 (((l.take y.1).map Int.toNat).map λ(k:Nat)=>(k:Int))/\y.1<=y.2.2/\(∀ad,y.2.1=some ad->ad.spot=none)/\(∀k∈(l.take y.1).map Int.toNat,k<b.cs.length)/\b.ordL [] l=b.ordL ((l.take y.1).map Int.toNat) (l.drop y.1),
  λ y=>len-y.1,(0,none,0),by trivial,⟨⟨λ _ _ h=>h,⟨_,(append_nil _).symm⟩,rfl⟩,?_,by omega,⟨rfl,λ i x hx=>by simp at hx⟩,Nat.le_refl _,by simp,by simp,rfl⟩,?_⟩
 .show _::U2.M=_;rw[hle_2.own];show _=Qv.obj b9 (.cells (Qbj (.slice none 0 0) (W2 b.ini.1) (J3 b.ini.2)).toArray 106 (0,0))::U.M;rw[hw0]
 rintro⟨i,xa,xc⟩f U3⟨hlg,hM,hi,hxo,hxc,hxs,hlow,hinv⟩;simp only at hM hi hxo hxc hxs hlow hinv;have hin:Zm ((i:Int)+1):=by unfold Zm;omega
 have hB3:Zd U3 B #[.slice h.ra h.rl h.rc,.slice h.ca h.cl h.cc]:=hB2.imI hlg.imm;have hb8₃:Zd U3 b8 #[.slice h.ra h.rl h.rc,.slice h.ca h.cl h.cc]:=hb8.imI hlg.imm;have hrd:=Q7 [] hM;have hol:((l.take i).map Int.toNat).length=i:=by rw[length_map,length_take];omega
 have h60:∀n∈((l.take i).map Int.toNat).map (λ(k:Nat)=>(k:Int)),0<=n/\n<60:=by
  intro n hn;obtain⟨k,hk,rfl⟩:=mem_map.1 hn;have:=hlow k hk;omega
 repeat refine⟨rfl,?_⟩
 conv=>whnf
 apply Qe<;>intro hc
 .have hlt:i<len:=by simpa using hc
  obtain⟨ad,n,hx,rfl,hsp,hs⟩:=((hl.lg (hf_2.trans hlg.frz2)).lg Qq).at hlt;rw[Qbe hx,b.ordL_cons]at hinv;refine⟨ad,i,⟨rfl,rfl,hlt⟩,_,hs,_,hB3.sees3 (o:=1) rfl,by unfold Zm;omega,?_⟩;refine⟨Qfg.any,(Wt _ _ _ _).go λ _=>?_⟩;have hncl:b.nc=(h.cl:Int):=by unfold Bk.nc;rw[hcl]
  rw[hncl]at hinv
  have bad:∀(U3':Qa T)(F:Int),U3.le U3'->F≠0->b.ordL [] l=F->∃v1 v2 A,Value.tuple #[.slice none 0 0,.slice none 0 0,.int .i64 F]=.tuple (v1::v2::[Value.int .i64 (b.ordL [] l)]).toArray/\Qa1 U3'.frz v1 (if b.ordL [] l=0 then(b.ends (l.map Int.toNat)).1 else[])/\Acc 4 1 v2 ((if b.ordL [] l=0 then(b.ends (l.map Int.toNat)).2 else[]).map .bool) U3'.M (A++U.M)/\(∀x ox,U.I x=some ox->U3'.I x=some ox)/\U3'.tok=U.tok:=by
   intro U3' F h3 h0 e;rw[e,if_neg h0,if_neg h0];exact⟨_,_,[_],rfl,.nil,by rw[h3.own,hM];exact .nil,λ x o hx=>h3.imm x o (hlg.imm x o (hle_2.imm x o hx)),h3.tok.trans (hlg.tok.trans hle_2.tok)⟩
  cases hbt:W1 n 0 ((h.cl:Int)-1)with
  |false=>
   rw[hbt]at hinv;have:=bad _ 6 (.refl _) (by decide) hinv
   repeat refine⟨rfl,?_⟩
   conv=>whnf
   exact this
  |true=>
  rw[if_pos hbt]at hinv
  have hn0:0<=n/\n<h.cl:=by
   simp only[W1,Bool.and_eq_true,decide_eq_true_eq]at hbt;omega
  obtain⟨k,rfl⟩:=Int.eq_ofNat_of_zero_le hn0.1;rw[Int.toNat_natCast]at hinv;have hkc:k<h.cl:=by omega
  have hcont:(((l.take i).map Int.toNat).map λ(k:Nat)=>(k:Int)).contains (k:Int)=decide (k∈(l.take i).map Int.toNat):=by
   rw[Bool.eq_iff_iff,contains_iff_mem,decide_eq_true_eq,mem_map];constructor
   .rintro⟨k',h1,h2⟩
    rwa [<- Int.ofNat.inj h2]
   .exact λ h=>⟨k,h,rfl⟩
  refine⟨_,hrd.cell (i:=0) rfl,Qkt.any,(Qbt xa i xc _ (hxo.lg Qq) (by omega) (k:Int)).go λ _=>?_⟩;rw[hcont];by_cases hin2:k∈(l.take i).map Int.toNat
  .rw[if_pos hin2]at hinv;rw[decide_eq_true hin2];have:=bad _ 5 (.refl _) (by decide) hinv
   repeat refine⟨rfl,?_⟩
   conv=>whnf
   exact this
  rw[if_neg hin2]at hinv;rw[decide_eq_false hin2];obtain⟨ad2,c,ga,gl,gc,aa,al,ac,hcx,hea,hspa,hrdc,-,-,ha,hal,hmem⟩:=(hb.lg (hf_2.trans hlg)).case hkc;have haf60:=hok.toLow.lt hmem;have hat:=Bk.aft1_at hcx;have hbits2:=λ U'(hle:U3.le U')=>Jd (S:=S) (U:=U') aa al ac c.af (ha.lg hle.lg) hal haf60;have hbits:=Jd (S:=S) (U:=U3) xa i xc _ (hxo.lg Qq) (by omega) h60;rw[Qol]at hbits;have hbl:Ja (c.af.map Int.toNat)<2^60:=Qce (toNat_lt haf60);have hbo:Ja ((l.take i).map Int.toNat)<2^60:=Qce λ x hx=>by have:=hlow x hx;omega
  have key:_↔(Ji b.A k).all (λ k=>(Ja ((l.take i).map Int.toNat)).testBit k)=true:=(Qu7 hbl hbo).trans ((Qu6 haf60).trans (by rw[hat]))
  have key2:(Ji b.A k).all (λ j=>(Ja ((l.take i).map Int.toNat)).testBit j)=(Ji b.A k).all λ j=>((l.take i).map Int.toNat).contains j:=by
   congr 1;funext j;exact Wy _ j
  rw[key2]at key;refine⟨_,hB3.sees3 (o:=1) rfl,ad2,k,⟨hea,rfl,hkc⟩,_,hrdc.cell (i:=3) rfl,.int .i64 (Ja (c.af.map Int.toNat):Nat),λ U' hle _=>?_,?_⟩
  .refine⟨Qa6.any,(hbits2 U' hle).mono ?_⟩;rintro _ U''⟨rfl,hU⟩-;exact⟨rfl,_,.refl _,hU▸.refl _⟩
  refine⟨_,hrd.cell (i:=0) rfl,?_⟩
  conv=>whnf
  intro U4 h_4 _;have hlg_4:=hlg.trans h_4.lg;have hM4:=h_4.own.trans hM;have hrd4:=Q7 [] hM4
  conv=>whnf
  have hbits:=Jd (S:=S) (U:=U4) xa i xc _ ((hxo.lg h_4.lg.frz2).lg Qq) (by omega) h60;rw[Qol]at hbits;refine⟨Qa6.any,hbits.go λ _=>?_⟩
  repeat refine⟨rfl,?_⟩
  conv=>whnf
  apply Qe<;>intro hc
  .have hno:(Ji b.A k).all (λ j=>((l.take i).map Int.toNat).contains j)=false:=by
    cases hh:(Ji b.A k).all (λ j=>((l.take i).map Int.toNat).contains j)with
    |false=>rfl
    |true=>exact absurd (key.2 hh) (bne_iff_ne.1 hc)
   rw[hno]at hinv;have:=bad _ 7 h_4 (by decide) hinv
   repeat refine⟨rfl,?_⟩
   conv=>whnf
   exact this
  have hyes:(Ji b.A k).all (λ j=>((l.take i).map Int.toNat).contains j)=true:=key.1 (bne_eq_false_iff_eq.1 hc);rw[if_pos hyes]at hinv;have hlens:=b.ends_len ((l.take i).map Int.toNat);have hB4:Zd U4 b8 #[.slice h.ra h.rl h.rc,.slice h.ca h.cl h.cc]:=hb8₃.le h_4;have htk:(l.take (i+1)).map Int.toNat=(l.take i).map Int.toNat++[k]:=by rw[Jt hx,map_append];rfl
  have hil5:i<5:=by omega
  have hend:=Qji (S:=S) (U:=U4) h b ((hb.lg (hf_2.trans hlg_4.frz2)).lg Qq) hok xa xc ((l.take i).map Int.toNat) (b.ends ((l.take i).map Int.toNat)) (by rw[hol];exact(hxo.lg h_4.lg.frz2).lg Qq) hxs (by rw[hol];exact hxc) (by rw[hol];omega) hlens.1 hlens.2 k (by omega);rw[hol,<- b.ends_snoc,<- htk]at hend;refine⟨_,⟨rfl,hB4.reads (λ k v hv=>by simpa using hv)⟩,?_⟩;refine⟨_,⟨rfl,hrd4⟩,Qso.any,hend.mono ?_⟩;rintro _ U5⟨⟨a',c',rfl,hxo',hxc',hxs'⟩,h_5⟩-;have hlg_5:=hlg_4.trans h_5.lg;have hM_5:=h_5.own.trans hM4;have hol':((l.take (i+1)).map Int.toNat).length=i+1:=by rw[length_map,length_take];omega
  rw[hol']at hxo' hxc';refine⟨rfl,Js (vs:=Qbj (.slice a' ((l.take (i+1)).map Int.toNat).length c') (W2 (b.ends ((l.take (i+1)).map Int.toNat)).1) (J3 (b.ends ((l.take (i+1)).map Int.toNat)).2)) [] hM_5 rfl (by simp[Qbj,Value.single]) λ U6 hI_6 ht_6 hM_6=>?_⟩;rw[hol']at hM_6;have hlg_6:U2.frz.lg U6:=⟨λ x o hx=>by rw[hI_6];exact hlg_5.imm x o hx,⟨_,(append_nil _).symm⟩,ht_6.trans hlg_5.tok⟩;have hz56:U5.frz.lg U6.frz:=⟨λ x o hx=>by show U6.I x=_;rw[hI_6];exact hx,⟨[],rfl⟩,ht_6⟩;refine⟨hin,rfl,(i+1,a',c'),by trivial,⟨hlg_6,hM_6,by show i+1<=len;omega,hxo'.lg hz56,hxc',hxs',?_,by rw[htk];exact hinv⟩,by show _-_<_-_;omega⟩;intro x hxm;rw[htk,mem_append]at hxm;rcases hxm with hxm|hxm
  .exact hlow x hxm
  .rw[mem_singleton.1 hxm];omega
 .have hge:i=l.length:=by simp at hc;omega
  subst hge;rw[drop_length]at hinv;have hz:b.ordL [] l=0:=hinv;rw[take_length]at hM hrd hol hlow;rw[hz,if_pos rfl,if_pos rfl];have hlens:=b.ends_len (l.map Int.toNat);generalize b.ends (l.map Int.toNat)=e at hM hrd hlens;obtain⟨e1,e2⟩:=e;simp only at hM hrd hlens;obtain⟨h1,h2⟩:=hlens;have hw60:J3 e2<2^60:=Nat.lt_trans (Q1v e2 (m:=5) (by omega)) (by decide);refine⟨_,hB3.sees3 (o:=0) rfl,_,hrd.cell (i:=7) rfl,_,hB3.sees3 (o:=1) rfl,?_⟩
  conv=>whnf
  obtain⟨eT,inf88,a1,a2,a3,a4,a5⟩:=Qmy.h;refine⟨λ v U'=>v=.slice (some ⟨b9,1,none⟩) h.rl 6,λ v _ _ hv _=>hv,λ U' hle hC=>?_,λ v hv=>?_⟩
  .conv=>whnf
   refine Q1h (b:=b9) (o:=1) (n:=h.rl) (N:=6) a1 a3 rfl rfl (by omega) ?_;exact⟨_,.refl _,rfl,.refl _⟩
  obtain⟨_,-,-,rfl⟩:=hv;refine⟨λ v U'=>Qa1 U'.frz v e1,λ v U1 U2 hv hle=>hv.lg hle.lg.frz2,λ U' hle hC=>?_,λ v hv=>?_⟩
  .have hrd':=Q7 [] (hle.own.trans hM)
   have hsrc:Src U' (some ⟨b9,1,none⟩) (e1.map .bool):=.inr ⟨_,rfl,λ i v hv=>by
    rw[getElem?_map]at hv;cases hx:e1[i]? with
    |none=>rw[hx]at hv;cases hv
    |some x=>
     rw[hx]at hv;cases hv;have hi6:i<6:=by have:=(List.getElem?_eq_some_iff.1 hx).1;omega
     have h3:(Qaj (W2 e1))[i]?=some (.bool x):=by
      rw[Q1n _ hi6];simp[W2,getD_eq_getElem?_getD,hx]
     have h4:=hrd' (1+i) (.bool x) (by
      rcases Qc8 hi6 with rfl|rfl|rfl|rfl|rfl|rfl <;> exact h3)
     rw[Qo]at h4 ⊢
     rwa [Nat.zero_add]at h4⟩
   conv=>whnf
   refine Q6i (sa:=none) (sl:=0) (cs:=[]) (new:=e1.map .bool) Qyq rfl rfl (.inl ⟨rfl,rfl⟩) rfl hsrc (by rw[length_map];omega) (by rw[length_map,length_nil];omega) (λ h0=>?_) (λ _ bn cn capn hfn hlen' hsz hcc=>?_)
   .have:e1=[]:=by simpa using h0
    subst this;exact⟨_,.refl _,.nil,.refl _⟩
   .refine Zk hfn λ U1 hl1 hbn=>⟨?_,hl1⟩;have hb':Zd U1.frz bn cn:=hbn;have:=hb'.bools (l:=e1) (cap:=capn) (λ i x hx=>hcc i _ (by simp[hx]));rw[Nat.zero_add,show h.rl=e1.length by omega];exact this
  obtain⟨_,-,-,va,vc,rfl,-⟩:=hv
  conv=>whnf
  intro U4 h_4 hC;obtain⟨-,hv⟩:=hC;refine⟨Q3l.any,(Qwt (J3 e2) h.cl hw60 (by omega)).mono ?_⟩;rintro v U5⟨hacc,hI_5,ht_5⟩-;rw[show h.cl=e2.length by omega,Zen]at hacc;obtain⟨ta,tl,tc,rfl,-,-⟩:=Acc.src (U:=U5) hacc;rw[h_4.own,hM]at hacc
  repeat refine⟨rfl,?_⟩
  conv=>whnf
  exact⟨_,_,[_],rfl,hv.lg ⟨hI_5,⟨[],rfl⟩,ht_5⟩,hacc,λ x o hx=>hI_5 x o (h_4.imm x o (hlg.imm x o (hle_2.imm x o hx))),ht_5.trans (h_4.tok.trans (hlg.tok.trans hle_2.tok))⟩
end Go.Proofs
namespace Go.TM
variable{T:Type}{P:Program}{S:Sys P T}{U:Qa T}
def Qa.on_of{A D:Qv}{M:List Qv}(h:U.M=A::D::M):U=({ U with M:=M }:Qa T).on A D:=by
 obtain⟨i,m,t⟩:=U;simp only[Qa.on]at h ⊢;rw[h]
def Bk.dfO(b:Bk)(r k:Nat)(w:Bool):Option (List Nat):=(b.all.take k).find? λ o=>(b.ends o).1.getD r false==w
def Bk.dfO_succ{b:Bk}{r k:Nat}{w:Bool}{o:List Nat}(h:b.all[k]?=some o):b.dfO r (k+1) w=(b.dfO r k w).or (if(b.ends o).1.getD r false==w then some o else none):=by
 unfold Bk.dfO;rw[Jt h,find?_append,find?_singleton]
def Bk.dfO_end(b:Bk)(r:Nat)(w:Bool):(b.dfO r b.all.length w).getD []=b.difS r w:=by unfold Bk.dfO Bk.difS;rw[take_length]
def Qan(o:Option (List Nat)):List Int:=(o.getD []).map λ(k:Nat)=>(k:Int)
end Go.TM
namespace Go.Proofs
open Go.TM
variable{T:Type}{S:TM.Sys prog T}{U:Qa T}
attribute [local irreducible] Qb Zh We
set_option maxHeartbeats 1000000 in
def Qrt(h:BH)(b:Bk)(hb:Zt U.frz h b)(hk:Chk U)(r:Int) :
  Qb S 21 #[h.v,.int .i64 r] (λ v U'=>(∃v1 v2,v=.tuple #[v1,v2,.int .i64 (b.askF r)]/\J0 U'.frz v1 (if b.askF r=0 then(b.difS r.toNat true).map λ(k:Nat)=>(k:Int)else[])/\J0 U'.frz v2 (if b.askF r=0 then(b.difS r.toNat false).map λ(k:Nat)=>(k:Int)else[]))/\U.le U') U:=by
 refine Qb.grown (R:=λ v U'=>∃v1 v2,v=.tuple #[v1,v2,.int .i64 (b.askF r)]/\J0 U' v1 (if b.askF r=0 then(b.difS r.toNat true).map λ(k:Nat)=>(k:Int)else[])/\J0 U' v2 (if b.askF r=0 then(b.difS r.toNat false).map λ(k:Nat)=>(k:Int)else[])) (λ v U1 U2 hl⟨v1,v2,e,h1,h2⟩=>⟨v1,v2,e,h1.lg hl,h2.lg hl⟩) (Qb.of (args:=[_,_]) Q3d Qd (by simp) ?_);have hrl:=hb.rs.1
 repeat refine⟨rfl,?_⟩
 conv=>whnf
 intro B U1 h_1 hB;have hB:Zd U1 B #[.slice h.ra h.rl h.rc,.slice h.ca h.cl h.cc]:=hB
 conv=>whnf
 intro b3 U2 h_2 hb3;have hb3:Zd U2 b3 #[.int .i64 r]:=hb3
 conv=>whnf
 intro b4 hf4;refine⟨_,.refl _,?_⟩
 conv=>whnf
 intro b5 hf5;refine⟨_,.refl _,?_⟩;have hle_2:=h_1.trans h_2;have hlp:U2.lg ((U2.put b4 (.cells #[.slice none 0 0] 22)).put b5 (.cells #[.slice none 0 0] 22)):=(Z0 b4 _).trans (Z0 b5 _);refine⟨_,⟨rfl,((hB.le h_2).lg hlp).reads (λ k v hv=>by simpa using hv)⟩,?_⟩;refine⟨_,(hb3.lg hlp).sees3 (o:=0) rfl,Qhn.any,(Qb5 h b (hb.lg (hle_2.lg.frz2.trans hlp.frz2)) (hk.lg (hle_2.lg.trans hlp)) r).go λ _=>?_⟩;by_cases hF:b.askF r=0
 .rw[hF,if_pos rfl,if_pos rfl,if_pos rfl];obtain⟨hok,hr0,hrn⟩:=Bk.askF_ok hF;obtain⟨q,rfl⟩:=Int.eq_ofNat_of_zero_le hr0;rw[Int.toNat_natCast];have hnr:=hok.nr;have hq6:q<6:=by unfold Bk.nr at hrn;omega
  conv=>whnf
  intro b7 hf7;refine⟨_,.refl _,rfl,Zs (vs:=[.slice h.ra h.rl h.rc,.slice h.ca h.cl h.cc]) hf7 rfl (by simp[Value.single]) λ U3 h_3 hb7=>?_⟩
  repeat refine⟨rfl,?_⟩
  conv=>whnf
  intro b8 hf8;refine⟨_,.refl _,?_⟩;have hlp8:=Z0 (U:=U3) b8 (.cells #[.bool false,.bool false] 122);refine⟨_,⟨rfl,(hb7.lg hlp8).reads (λ k v hv=>by simpa using hv)⟩,?_⟩;refine⟨Qsq.any,(Qk3 h b ((hb.lg (hle_2.lg.frz2.trans (hlp.frz2.trans (h_3.lg.frz2.trans hlp8.frz2)))).lg Qq)).mono ?_⟩;rintro _ U4⟨⟨B',rfl,hB'⟩,h_4⟩-;have hf_4:U.frz.lg U4.frz:=hle_2.lg.frz2.trans (hlp.frz2.trans (h_3.lg.frz2.trans (hlp8.frz2.trans h_4.lg.frz2)));have hb3:Zd U4 b3 #[.int .i64 (q:Int)]:=hb3.lg (hlp.trans (h_3.lg.trans (hlp8.trans h_4.lg)))
  have hM4:U4.M=.obj b8 (.cells #[.bool (b.dfO q 0 true).isSome,.bool (b.dfO q 0 false).isSome] 122 (0,0))::.obj b5 (.cells #[.slice none 0 0] 22 (0,0))::.obj b4 (.cells #[.slice none 0 0] 22 (0,0))::U.M:=by
   rw[h_4.own];show _::U3.M=_;rw[h_3.own];show _::_::_::U2.M=_;rw[hle_2.own];rfl
  have hit:∀l U5,U4.frz.lg U5->Zer S 83 #[.func (.yield l) #[] #[],.pointer (some ⟨B',0,none⟩)] l b.all.length (Zf8 b) U5:=λ l U5 hl=>Qhw h b (hb.lg (hf_4.trans hl.frz2)) hok (hB'.imI hl.imm);have ht4:U4.tok=U.tok:=h_4.tok.trans (hlp8.tok.trans (h_3.tok.trans (hlp.tok.trans hle_2.tok)));clear hB' hlp8 h_4 h_3 hf7 hf8 hlp
  conv=>whnf
  let Inv:Nat->Qa T->Prop:=λ k U'=>U4.frz.lg U'/\∃v4 v5,U'.M=.obj b8 (.cells #[.bool (b.dfO q k true).isSome,.bool (b.dfO q k false).isSome] 122 (0,0))::.obj b5 (.cells #[v5] 22 (0,0))::.obj b4 (.cells #[v4] 22 (0,0))::U.M/\J0 U'.frz v4 (Qan (b.dfO q k true))/\J0 U'.frz v5 (Qan (b.dfO q k false))
  refine Qzl Qd b.all.length (Zf8 b) Inv (λ _ _=>False) (λ _=>False) rfl rfl Qsw.any hit ?_ ?_ ⟨Qq,_,_,hM4,.nil,.nil⟩ ?_ ?_ ?_ ?_
  .rintro k p U' ⟨o,v,-,rfl,-⟩;rfl
  .rintro k U' U'' hle ⟨hl,v4,v5,hM,h4,h5⟩;exact⟨Zdt hl hle,v4,v5,hle.own.trans hM,h4.lg hle.lg.frz2,h5.lg hle.lg.frz2⟩
  .rintro l A' Bd D k p U₀ KN KX KR KA hk' ⟨o,v,ho,rfl,a,cap,rfl,hio,hcap,hsp⟩ ⟨hl,v4,v5,hM,h4,h5⟩ hKN hKX hKR hKA;obtain⟨a4,c4,rfl,h4⟩:=h4;obtain⟨a5,c5,rfl,h5⟩:=h5
   conv=>whnf
   intro b9 hf9;refine⟨_,.refl _,rfl,Zs (vs:=Qbj (.slice a o.length cap) (W2 (b.ends o).1) (J3 (b.ends o).2)) hf9 rfl (by simp[Qbj,Value.single]) λ U5 h_5 hb_9=>?_⟩
   conv=>whnf
   rw[Qa.on_of (h_5.own:U5.M=A'::D::U₀.M)];refine hKA _ _ ?_;have hM6:(({ U5 with M:=U₀.M }:Qa T).on Bd D).M=[Bd,D]++(.obj b8 (.cells #[.bool (b.dfO q k true).isSome,.bool (b.dfO q k false).isSome] 122 (0,0))::.obj b5 (.cells #[.slice a5 (Qan (b.dfO q k false)).length c5] 22 (0,0))::.obj b4 (.cells #[.slice a4 (Qan (b.dfO q k true)).length c4] 22 (0,0))::U.M):=by show Bd::D::U₀.M=_;rw[hM];rfl
   have hI6:U₀.frz.lg (({ U5 with M:=U₀.M }:Qa T).on Bd D):=⟨λ x o h=>h_5.imm x o h,⟨_,(append_nil _).symm⟩,h_5.tok⟩;have hb9:Zd (({ U5 with M:=U₀.M }:Qa T).on Bd D) b9 (Qbj (.slice a o.length cap) (W2 (b.ends o).1) (J3 (b.ends o).2)).toArray:=hb_9;generalize(({ U5 with M:=U₀.M }:Qa T).on Bd D)=U6 at hM6 hI6 hb9 ⊢;clear h_5 hb_9 hf9;have hb36:Zd U6 b3 #[.int .i64 (q:Int)]:=hb3.imI λ x o h=>hI6.imm x o (hl.imm x o h)
   have hst:(Qbj (.slice a o.length cap) (W2 (b.ends o).1) (J3 (b.ends o).2))[1+q]?=some (.bool ((b.ends o).1.getD q false)):=by
    have:=Q1n (W2 (b.ends o).1) hq6;rcases Qc8 hq6 with rfl|rfl|rfl|rfl|rfl|rfl <;> exact this
   have hrd9:Z7 U6 ⟨b9,0,none⟩ (Qbj (.slice a o.length cap) (W2 (b.ends o).1) (J3 (b.ends o).2)):=hb9.reads λ k v hv=>by simpa using hv
   have hsq:U6.sees (((Addr.mk b9 0 none).add 1).add (q*1)) (.bool ((b.ends o).1.getD q false)):=by
    have:=hrd9 (1+q) _ hst;rw[Qo]at this;rw[Qo,Qo,Nat.mul_one]
    rwa [Nat.zero_add]at this ⊢
   have hd1:=b.dfO_succ (r:=q) (w:=true) ho;have hd2:=b.dfO_succ (r:=q) (w:=false) ho;have hov:J0 U6.frz (.slice a o.length cap) (o.map λ(k:Nat)=>(k:Int)):=⟨a,cap,by simp,by rw[length_map];exact hio.lg hI6.frz2⟩;have h4:J0 U6.frz (.slice a4 (Qan (b.dfO q k true)).length c4) (Qan (b.dfO q k true)):=⟨a4,c4,rfl,h4.lg hI6.frz2⟩;have h5:J0 U6.frz (.slice a5 (Qan (b.dfO q k false)).length c5) (Qan (b.dfO q k false)):=⟨a5,c5,rfl,h5.lg hI6.frz2⟩;have hr8:=Q7 [Bd,D] hM6;have hl6:U4.frz.lg U6.frz:=hl.frz2.trans hI6.frz2
   have same:∀(KN':Zp T)f_1 ds1,(∀f_1 ds1 U3,U₀.frz.lg U3->Inv (k+1) U3->KN' f_1 ds1 (U3.on Bd D))->b.dfO q (k+1) true=b.dfO q k true->b.dfO q (k+1) false=b.dfO q k false->KN' f_1 ds1 U6:=by
    intro KN' f_1 ds1 hK e1 e2;rw[Qa.on_of (hM6:U6.M=Bd::D::(.obj b8 (.cells #[.bool (b.dfO q k true).isSome,.bool (b.dfO q k false).isSome] 122 (0,0))::.obj b5 (.cells #[.slice a5 (Qan (b.dfO q k false)).length c5] 22 (0,0))::.obj b4 (.cells #[.slice a4 (Qan (b.dfO q k true)).length c4] 22 (0,0))::U.M))];refine hK _ _ _ ⟨hI6.imm,⟨_,(append_nil _).symm⟩,hI6.tok⟩ ⟨⟨λ x o h=>hI6.imm x o (hl.imm x o h),⟨_,(append_nil _).symm⟩,hI6.tok.trans hl.tok⟩,.slice a4 (Qan (b.dfO q k true)).length c4,.slice a5 (Qan (b.dfO q k false)).length c5,?_,?_,?_⟩
    .rw[e1,e2];rfl
    .rw[e1];exact h4
    .rw[e2];exact h5
   refine⟨_,hb36.sees3 (o:=0) rfl,q,⟨rfl,hq6⟩,_,hsq,?_⟩;cases hs:(b.ends o).1.getD q false with
   |true=>
    rw[hs]at hd1 hd2;cases e4:b.dfO q k true with
    |none=>
     rw[e4]at hd1;simp at hd1 hd2;rw[e4]at hM6 hr8;refine⟨0,⟨rfl,by omega⟩,_,hr8 0 _ rfl,?_⟩
     repeat refine⟨rfl,?_⟩
     refine⟨_,hrd9 0 _ rfl,rfl,Js (vs:=[.slice a o.length cap]) [Bd,D,_,_] hM6 rfl (by simp[Value.single]) λ U7 hI_7 ht_7 hM_7=>?_⟩;refine⟨0,⟨rfl,by omega⟩,rfl,Qbk (i:=0) (v:=.bool true) [Bd,D] hM_7 (by show 0<2;omega) rfl λ U8 hI_8 ht_8 hM_8=>?_⟩;have hz:U6.frz.lg U8.frz:=⟨λ x o hx=>by show U8.I x=_;rw[hI_8,hI_7];exact hx,⟨[],rfl⟩,ht_8.trans ht_7⟩;have hI8:∀x o,U₀.I x=some o->U8.I x=some o:=λ x o hx=>by rw[hI_8,hI_7];exact hI6.imm x o hx
     have ht8:U8.tok=U₀.tok:=by rw[ht_8,ht_7];exact hI6.tok
     conv=>whnf
     rw[Qa.on_of (hM_8:U8.M=Bd::D::(.obj b8 (.cells #[.bool true,.bool (b.dfO q k false).isSome] 122 (0,0))::.obj b5 (.cells #[.slice a5 (Qan (b.dfO q k false)).length c5] 22 (0,0))::.obj b4 (.cells #[.slice a o.length cap] 22 (0,0))::U.M))];refine hKN _ _ _ ⟨hI8,⟨_,(append_nil _).symm⟩,ht8⟩ ⟨⟨λ x o h=>hI8 x o (hl.imm x o h),⟨_,(append_nil _).symm⟩,ht8.trans hl.tok⟩,.slice a o.length cap,.slice a5 (Qan (b.dfO q k false)).length c5,?_,?_,?_⟩
     .rw[hd1,hd2];rfl
     .rw[hd1];exact hov.lg hz
     .rw[hd2];exact h5.lg hz
    |some o'=>
     rw[e4]at hd1;simp at hd1 hd2;have hfin:=same KN;rw[e4]at hM6 hr8;refine⟨0,⟨rfl,by omega⟩,_,hr8 0 _ rfl,?_⟩
     repeat refine⟨rfl,?_⟩
     refine⟨_,hb36.sees3 (o:=0) rfl,q,⟨rfl,hq6⟩,_,hsq,?_⟩;rw[hs]
     repeat refine⟨rfl,?_⟩
     conv=>whnf
     exact hfin _ _ hKN (by rw[hd1,e4]) hd2
   |false=>
    rw[hs]at hd1 hd2;cases e5:b.dfO q k false with
    |none=>
     rw[e5]at hd2;simp at hd1 hd2;rw[e5]at hM6 hr8
     repeat refine⟨rfl,?_⟩
     refine⟨_,hb36.sees3 (o:=0) rfl,q,⟨rfl,hq6⟩,_,hsq,?_⟩;rw[hs];refine⟨1,⟨rfl,by omega⟩,_,hr8 1 _ rfl,?_⟩
     repeat refine⟨rfl,?_⟩
     refine⟨_,hrd9 0 _ rfl,rfl,Js (vs:=[.slice a o.length cap]) [Bd,D,_] hM6 rfl (by simp[Value.single]) λ U7 hI_7 ht_7 hM_7=>?_⟩;refine⟨1,⟨rfl,by omega⟩,rfl,Qbk (i:=1) (v:=.bool true) [Bd,D] hM_7 (by show 1<2;omega) rfl λ U8 hI_8 ht_8 hM_8=>?_⟩;have hz:U6.frz.lg U8.frz:=⟨λ x o hx=>by show U8.I x=_;rw[hI_8,hI_7];exact hx,⟨[],rfl⟩,ht_8.trans ht_7⟩;have hI8:∀x o,U₀.I x=some o->U8.I x=some o:=λ x o hx=>by rw[hI_8,hI_7];exact hI6.imm x o hx
     have ht8:U8.tok=U₀.tok:=by rw[ht_8,ht_7];exact hI6.tok
     conv=>whnf
     rw[Qa.on_of (hM_8:U8.M=Bd::D::(.obj b8 (.cells #[.bool (b.dfO q k true).isSome,.bool true] 122 (0,0))::.obj b5 (.cells #[.slice a o.length cap] 22 (0,0))::.obj b4 (.cells #[.slice a4 (Qan (b.dfO q k true)).length c4] 22 (0,0))::U.M))];refine hKN _ _ _ ⟨hI8,⟨_,(append_nil _).symm⟩,ht8⟩ ⟨⟨λ x o h=>hI8 x o (hl.imm x o h),⟨_,(append_nil _).symm⟩,ht8.trans hl.tok⟩,.slice a4 (Qan (b.dfO q k true)).length c4,.slice a o.length cap,?_,?_,?_⟩
     .rw[hd1,hd2];rfl
     .rw[hd1];exact h4.lg hz
     .rw[hd2];exact hov.lg hz
    |some o'=>
     rw[e5]at hd2;simp at hd1 hd2;have hfin:=same KN;rw[e5]at hM6 hr8
     repeat refine⟨rfl,?_⟩
     refine⟨_,hb36.sees3 (o:=0) rfl,q,⟨rfl,hq6⟩,_,hsq,?_⟩;rw[hs];refine⟨1,⟨rfl,by omega⟩,_,hr8 1 _ rfl,?_⟩
     repeat refine⟨rfl,?_⟩
     conv=>whnf
     exact hfin _ _ hKN hd1 (by rw[hd2,e5])
  .rintro d l OA U3' ⟨hl,v4,v5,hM,h4,h5⟩;obtain⟨a4,c4,rfl,h4⟩:=h4;obtain⟨a5,c5,rfl,h5⟩:=h5;have hM5:(U3'.on (.obj l OA) (.obj d (.deferred (some [])))).M=[.obj l OA,.obj d (.deferred (some []))]++(.obj b8 (.cells #[.bool (b.dfO q b.all.length true).isSome,.bool (b.dfO q b.all.length false).isSome] 122 (0,0))::.obj b5 (.cells #[.slice a5 (Qan (b.dfO q b.all.length false)).length c5] 22 (0,0))::.obj b4 (.cells #[.slice a4 (Qan (b.dfO q b.all.length true)).length c4] 22 (0,0))::U.M):=by show _::_::U3'.M=_;rw[hM];rfl
   have h4:J0 (U3'.on (.obj l OA) (.obj d (.deferred (some [])))).frz (.slice a4 (Qan (b.dfO q b.all.length true)).length c4) (Qan (b.dfO q b.all.length true)):=⟨a4,c4,rfl,h4⟩;have h5:J0 (U3'.on (.obj l OA) (.obj d (.deferred (some [])))).frz (.slice a5 (Qan (b.dfO q b.all.length false)).length c5) (Qan (b.dfO q b.all.length false)):=⟨a5,c5,rfl,h5⟩;have hl5:U4.frz.lg (U3'.on (.obj l OA) (.obj d (.deferred (some [])))):=⟨hl.imm,⟨_,(append_nil _).symm⟩,hl.tok⟩;generalize(U3'.on (.obj l OA) (.obj d (.deferred (some []))))=U5 at hM5 h4 h5 hl5 ⊢;have e1:Qan (b.dfO q b.all.length true)=(b.difS q true).map λ(k:Nat)=>(k:Int):=by unfold Qan;rw[b.dfO_end]
   have e2:Qan (b.dfO q b.all.length false)=(b.difS q false).map λ(k:Nat)=>(k:Int):=by unfold Qan;rw[b.dfO_end]
   have hr4:=Q7 (b:=b4) (vs:=[.slice a4 (Qan (b.dfO q b.all.length true)).length c4]) [_,_,_,_] hM5;have hr5:=Q7 (b:=b5) (vs:=[.slice a5 (Qan (b.dfO q b.all.length false)).length c5]) [_,_,_] hM5;refine⟨λ U'=>U5.frz.lg U'/\U'.M=U5.M,λ U U'⟨a,b⟩hle=>⟨Zdt a hle,hle.own.trans b⟩,_,hr4 0 _ rfl,.slice a5 (Qan (b.dfO q b.all.length false)).length c5,λ U' hle _=>⟨_,(hr5 0 _ rfl).lg hle.lg,rfl,_,.refl _,.refl _⟩,λ U' hG=>⟨_,Q7 [_,_,_] (hG.2.trans hM5) 0 _ rfl,rfl,_,.refl _,.refl _⟩,?_⟩
   conv=>whnf
   intro U' hle _;refine⟨⟨rfl,Q1p (vs:=[.slice a4 (Qan (b.dfO q b.all.length true)).length c4]) [_,_,_,_] (hle.own.trans hM5) rfl (by simp[Value.single]) ⟨rfl,_,.refl _,⟨⟨λ b o h=>hle.imm b o h,⟨_,(append_nil _).symm⟩,hle.tok⟩,hM5.symm⟩⟩⟩,λ U'' hG=>?_⟩;obtain⟨hl_6,hM_6⟩:=hG;have hM_6:=hM_6.trans hM5;refine⟨rfl,Js (vs:=[.slice a5 (Qan (b.dfO q b.all.length false)).length c5]) [_,_,_] hM_6 rfl (by simp[Value.single]) λ U7 hI_7 ht_7 hM_7=>?_⟩;have hz:U5.frz.lg U7.frz:=⟨λ x o hx=>by show U7.I x=_;rw[hI_7];exact hl_6.imm x o hx,⟨[],rfl⟩,ht_7.trans hl_6.tok⟩;refine⟨[.obj l OA,.obj d (.deferred none)]++(.obj b8 (.cells #[.bool (b.dfO q b.all.length true).isSome,.bool (b.dfO q b.all.length false).isSome] 122 (0,0))::.obj b5 (.cells #[.slice a5 (Qan (b.dfO q b.all.length false)).length c5] 22 (0,0))::.obj b4 (.cells #[.slice a4 (Qan (b.dfO q b.all.length true)).length c4] 22 (0,0))::U.M),by rw[hM_7];exact .there .here,?_⟩;refine⟨_,Q7 [_,_,_,_] rfl 0 _ rfl,?_⟩;refine⟨_,Q7 [_,_,_] rfl 0 _ rfl,?_⟩;refine⟨⟨_,_,rfl,?_,?_⟩,⟨λ x o hx=>?_,⟨[_,_,_,_,_],rfl⟩,?_⟩⟩
   .rw[<- e1];exact h4.lg hz
   .rw[<- e2];exact h5.lg hz
   .show U7.I x=_;rw[hI_7];exact hl_6.imm x o (hl5.imm x o (hf_4.imm x o hx))
   .show U7.tok=_;rw[ht_7];exact hl_6.tok.trans (hl5.tok.trans ht4)
  .exact λ _ _ _ _ _ h=>h.elim
  .exact λ _ _ _ _ h=>h.elim
 .rw[if_neg hF,if_neg hF,if_neg hF]
  conv=>whnf
  intro b7 hf7;refine⟨_,.refl _,rfl,Zs (vs:=[.slice none 0 0,.slice none 0 0]) hf7 rfl (by simp[Value.single]) λ U3 h_3 hb7=>?_⟩
  have hM_3:U3.M=[.obj b5 (.cells #[.slice none 0 0] 22 (0,0))]++.obj b4 (.cells #[.slice none 0 0] 22 (0,0))::U.M:=by
   rw[h_3.own];show _::_::U2.M=_;rw[hle_2.own];rfl
  repeat refine⟨rfl,?_⟩
  conv=>whnf
  apply Qe<;>intro hc
  .refine⟨rfl,Js (vs:=[.slice none 0 0]) [_] hM_3 rfl (by simp[Value.single]) λ U4 hI_4 ht4 hM4=>?_⟩;refine⟨rfl,Js (vs:=[.slice none 0 0]) [] hM4 rfl (by simp[Value.single]) λ U5 hI_5 ht_5 hM_5=>?_⟩;refine⟨_,Q7 [_] hM_5 0 _ rfl,_,Q7 [] hM_5 0 _ rfl,⟨_,_,rfl,.nil,.nil⟩,⟨λ x o hx=>?_,⟨[_,_],hM_5⟩,?_⟩⟩
   .rw[hI_5,hI_4];exact h_3.imm x o (hlp.imm x o (hle_2.imm x o hx))
   .rw[ht_5,ht4];exact h_3.tok.trans (hlp.tok.trans hle_2.tok)
  .exact absurd (by simpa using hc) hF
end Go.Proofs
namespace Go.TM
variable{T:Type}{P:Program}{S:Sys P T}{f:Fm}{K:Value->Qa T->Prop}{U:Qa T}
def Q6l{t e ty n:Nat}{z:Value}{inf:TypeInfo}{x y:Operand}(hu:P.underlying t=some (.slice e))(hi:P.info? e=some inf)(hz:inf.zero=some z)(hzc:z.cells=#[z])(hsz:inf.size=1)(hby:inf.bytes<=64)
  (hx:Zl f x=.int .i64 0) (hy:Zl f y=.int .i64 n) (hn:n<=1048576) (h:∀b,U.free b->K (.slice (some ⟨b,0,none⟩) 0 n) (U.put b (.cells (replicate n z).toArray e))) :
  OX S (.raw { dst:=none,op:=.makeSlice t x y,type:=ty,pos := "", after:=#[],guard:=none }) f K U:=by
 intro a' ha;simp only[execOp,ha,hx,hy];refine rq ?_;unfold Instr.makeSlice;have hw:IntKind.wrap .i64 (n:Int)=n:=Qdx (by unfold Zm;omega);have hw0:IntKind.wrap .i64 (0:Int)=0:=by decide
 simp only[Qf,Zg hu,asInt,asIntOf,Qi,Wi hi,hw,hw0]
 have hle:(inf.bytes:Int)*(n:Int)<=67108864:=by
  have:=Nat.mul_le_mul hby hn;have e:((inf.bytes*n:Nat):Int)=(inf.bytes:Int)*n:=by simp
  omega
 have e48:(2:Int)^48=281474976710656:=by decide
 have hno:(((decide ((n:Int)<0)|| decide ((inf.bytes:Int)*(n:Int) > 2^48))|| decide ((0:Int)<0))|| decide ((0:Int) > n))=false:=by
  rw[e48];simp only[Bool.or_eq_false_iff,decide_eq_false_iff_not];omega
 simp only[hno,Bool.false_eq_true,if_false];rw[Qf];refine Qmq ?_;simp only[Qf,Jh hi,hsz,Nat.mul_one,Int.toNat_natCast]
 have fin:∀c:Array Value,(n≠0->c=z.cells)->Qr P (newRow e ((Array.range n).map (c[· % c.size]!))) (λ a U'=>∃U1,Qw U' U1/\K (.slice (some a) 0 n) U1) U:=by
  intro c hc;refine Jk λ b hb=>⟨_,.refl _,?_⟩
  have:(Array.range n).map (c[· % c.size]!)=(replicate n z).toArray:=by
   apply Array.ext
   .simp
   .intro i h1 h2;have hn0:n≠0:=by simp at h1;omega
    have hcz:=hc hn0;rw[hzc]at hcz;subst hcz;simp[Nat.mod_one]
  rw[this];exact h b hb
 split
 .rename_i h0;exact fin #[] λ h=>absurd h0 h
 .simp only[Qf,Qb7 hi hz];exact fin _ λ _=>rfl
def Sep.perm{M':List Qv}(hs:Sep U)(h:U.M.Perm M'):Sep { U with M:=M' }:=λ r hr=>hs r (h.mem_iff.2 hr)
def Jx.freeze{e n:Nat}{v:Value}{cs:List Value}{A R:List Qv}(hs:Sep U)(h:Jx e n v cs A)(hM:U.M.Perm (A++R)) :
  ∃U'',Qw U U''/\U''.M=R/\U.frz.lg U''.frz/\∃a len cap,v=.slice a len cap/\cs.length=len*n/\Src U''.frz a cs/\(∀ad,a=some ad->ad.spot=none):=by
 obtain⟨U'',k1,k2,a,len,cap,e1,h1,h2,h3,-⟩:=(h R).freeze (U:={ U with M:=R }) (U':={ U with M:=A++R }) (hs.perm hM) (λ _ _ h=>h) rfl;exact⟨U'',(Qaa hM).trans k1,k2.own,⟨k2.imm,⟨[],rfl⟩,k2.tok⟩,a,len,cap,e1,h1,h2,h3⟩
def Jx.blk{e n:Nat}{v:Value}{cs:List Value}{A:List Qv}(h:Jx e n v cs A)(hne:cs≠[]):∃b c len cap,v=.slice (some ⟨b,0,none⟩) len cap/\cs.length=len*n/\len<=cap/\c.size=cap*n/\A=[.obj b (.cells c e (0,0))]/\∀(i:Nat)(x:Value),cs[i]?=some x->c[i]?=some x:=by
 rcases h []with⟨_,h1,_⟩|⟨b,c,len,cap,h1,h2,h3,h4,hM,h5⟩
 .exact absurd h1 hne
 .exact⟨b,c,len,cap,h1,h2,h3,h4,by simpa using hM,h5⟩
def Jx.ofBlk{e n b len cap:Nat}{cs:List Value}{c:Array Value}(h1:cs.length=len*n)(h2:len<=cap)(h3:c.size=cap*n)(h4:∀(i:Nat)(x:Value),cs[i]?=some x->c[i]?=some x):Jx e n (.slice (some ⟨b,0,none⟩) len cap) cs [.obj b (.cells c e (0,0))]:=
 λ _=>.inr ⟨b,c,len,cap,rfl,h1,h2,h3,rfl,h4⟩
end Go.TM
namespace Go.TM
def Acc.room{e n:Nat}{a:Option Addr}{l c:Nat}{cs:List Value}{M M₀:List Qv}(h:Acc e n (.slice a l c) cs M M₀):l<=c:=by
 rcases h with⟨e,-,-⟩|⟨_,_,_,_,e,-,h,-⟩ <;> cases e
 .exact Nat.le_refl _
 .exact h
end Go.TM
namespace Go.Proofs
open Go.TM
variable{T:Type}{S:TM.Sys prog T}{U:Qa T}
attribute [local irreducible] Qb Zh We
def Zhr:SlT prog 40 9 1:=.of (by kernel_rfl)
def Zmr:prog.underlying 40=some (.slice 9):=by kernel_rfl
def Zhs:SlT prog 46 22 1:=.of (by kernel_rfl)
def Zms:prog.underlying 46=some (.slice 22):=by kernel_rfl
def Qyp:SlT prog 41 48 4:=.of (by kernel_rfl)
def Qhj(a:Option Addr)(len cap:Nat)(l:List ByteArray)(hl:Qx U a len 1 l λ s vs=>vs=[.string s])(hlen:len<=1000) :
  Qb S 70 #[.slice a len cap] (λ v U'=>(∃a' len' cap',v=.slice a' len' cap'/\len'<=cap'/\Qx U'.frz a' len' 1 l λ s vs=>vs=[.string s])/\U.le U') U:=by
 have hll:=hl.1
 have main:Qb S 70 #[.slice a len cap] (λ v U'=>Acc 9 1 v (l.map .string) U'.M U.M/\(∀x o,U.I x=some o->U'.I x=some o)/\U'.tok=U.tok) U:=by
  refine Qb.of (args:=[_]) Qst Qd (by simp) ?_
  conv=>whnf
  refine Qi7 Zmr rfl ?_
  conv=>whnf
  apply Qe<;>intro hc
  .have ha:a=none:=by simpa using hc
   subst ha
   have:l=[]:=by
    cases l with
    |nil=>rfl
    |cons x r=>
     obtain⟨ad,_,_,_,h,_⟩:=Qx.at hl (show 0<len by simp at hll;omega);cases h
   subst this
   repeat refine⟨rfl,?_⟩
   conv=>whnf
   exact⟨.nil,λ _ _ h=>h,rfl⟩
  .obtain⟨ad,rfl⟩:∃ad,a=some ad:=by cases a with|none=>cases hc|some ad=>exact⟨ad,rfl⟩
   conv=>whnf
   intro b5 hf5;refine⟨_,.refl _,?_⟩
   conv=>whnf
   refine Ws (v:=.slice (some ⟨b5,0,none⟩) 0 0) (cs:=[]) (new:=l.map .string) (M₀:=U.M) Zhr rfl rfl .empty (.inr ⟨_,rfl,λ i v hv=>?_⟩) (by simp[hll]) (by simp[Value.single]) (by simp;omega) λ v' M' ha' _=>?_
   .rw[getElem?_map]at hv;cases hx:l[i]? with
    |none=>rw[hx]at hv;cases hv
    |some x=>
     rw[hx]at hv;cases hv;have hi:i<len:=by have:=(List.getElem?_eq_some_iff.1 hx).1;omega
     obtain⟨ad',x',vs,hx',e,hsp,rfl,-,hr⟩:=Qx.at hl hi;cases e;rw[hx]at hx';cases hx';have hs:=hr 0 _ rfl;obtain⟨bb,oo,ss⟩:=ad;cases hsp;rw[Qo,Qo,Nat.mul_one,Nat.add_zero]at hs;rw[Qo];exact hs.lg (Z0 b5 _)
   obtain⟨ta,tl,tc,rfl,-,-⟩:=Acc.src (U:={ U with M:=M' }) ha'
   repeat refine⟨rfl,?_⟩
   conv=>whnf
   exact⟨by simpa using ha',λ _ _ h=>h,rfl⟩
 refine main.sep λ v U' hs⟨ha,hI,ht⟩=>?_;obtain⟨U'',k1,k2,a',len',cap',rfl,hl',hsrc,hsp,_⟩:=ha.freeze hs hI ht;refine⟨U'',k1,⟨a',len',cap',rfl,ha.room,?_⟩,k2⟩;refine⟨by simp at hl';exact hl',λ i x hx=>?_⟩;rcases hsrc with⟨_,hn⟩|⟨ad,rfl,hr⟩
 .rw[map_eq_nil_iff]at hn;subst hn;simp at hx
 .refine⟨ad,[.string x],rfl,hsp ad rfl,rfl,rfl,λ k v hv=>?_⟩;cases k with
  |zero=>
   simp at hv;subst hv;have h1:=hr i (.string x) (by simp[hx]);obtain⟨bb,oo,ss⟩:=ad;cases hsp ⟨bb,oo,ss⟩ rfl;rw[Qo]at h1;rw[Qo,Qo,Nat.mul_one,Nat.add_zero];exact h1
  |succ k=>simp at hv
end Go.Proofs
namespace Go.TM
variable{T:Type}{P:Program}{S:Sys P T}{U U':Qa T}
def Qb.okv{f:FuncId}{args:Array Value}{R R':Value->Qa T->Prop}{U:Qa T}(h:Qb S f args R U)(hr:∀v U',(∃w,U'.ok w)->R v U'->∃U'',Qw U' U''/\R' v U''):Qb S f args R' U:=by
 intro Stop m c cs k;refine h Stop m c cs λ v U' r=>?_;by_cases hw:∃w,U'.ok w
 .obtain⟨U'',h1,h2⟩:=hr v U' hw r;exact .shift h1 (k v _ h2)
 .exact .priv ⟨rfl,λ w ok=>absurd ⟨w,ok⟩ hw⟩
def Qrg(h:∃w,U.ok w):Sep U:=let ⟨_,ok⟩:=h;ok.sep
def Qzi(h:∃w,U.ok w)(k:Qw U U'):∃w,U'.ok w:=let ⟨w,ok⟩:=h;⟨w,(k.2 w ok).1⟩
structure Qao where
 ga:Option Addr
 gl:Nat
 gc:Nat
 v:Value
 F:List Qv
def Qcq(p:Cs×Qao):List Value:=[.string p.1.nm,.int .i64 p.1.ag,.slice p.2.ga p.2.gl p.2.gc,p.2.v]
structure Qco(U:Qa T)(p:Cs×Qao):Prop where
 gs:Wj U.frz p.2.ga p.2.gl p.1.gs
 gl:p.2.gl<2^60
 af:Jx 3 1 p.2.v (p.1.af.map λ n=>.int .i64 n) p.2.F
 nm:p.1.nm.size<2^60
 al:p.1.af.length<=1000
def Qco.lg{p:Cs×Qao}(h:Qco U p)(k:U.frz.lg U'.frz):Qco U' p:=⟨h.gs.lg k,h.gl,h.af,h.nm,h.al⟩
def Q0{α β:Type}{f:α->List β}{n:Nat}(hf:∀a,(f a).length=n):∀l:List α,(l.flatMap f).length=l.length*n
 |[]=>by simp
 |a::l=>by simp only[flatMap_cons,length_append,hf,Q0 hf l,length_cons,Nat.succ_mul];omega
def Z2(p:Cs×Qao):(Qcq p).length=4:=rfl
def Qdl{α β:Type}{f:α->List β}{n:Nat}(hf:∀a,(f a).length=n){l:List α}{i j:Nat}{a:α}(h:l[i]?=some a)(hj:j<n):(l.flatMap f)[i*n+j]?=(f a)[j]?:=by
 induction l generalizing i with
 |nil=>cases h
 |cons b l ih=>
  cases i with
  |zero=>
   simp at h;subst h;rw[flatMap_cons,Nat.zero_mul,Nat.zero_add,getElem?_append_left (by rw[hf];exact hj)]
  |succ i=>
   simp at h;rw[flatMap_cons,getElem?_append_right (by rw[hf,Nat.succ_mul];omega),hf];rw[<- ih h];congr 1;rw[Nat.succ_mul];omega
structure Qa3(U:Qa T)(h:BH)(b:Bk)(M₀:List Qv):Prop where
 ex:∃(ps:List (Cs×Qao))(A:List Qv),ps.map (·.1)=b.cs/\(∀p∈ps,Qco U p)/\Jx 48 4 (.slice h.ca h.cl h.cc) (ps.flatMap Qcq) A/\U.M.Perm (A++(ps.flatMap (·.2.F)++M₀))
 rs:Qx U.frz h.ra h.rl 1 b.rs λ s vs=>vs=[.string s]
 rl:h.rl<2^60
 rn:∀s∈b.rs,s.size<2^60
 rc:h.rl<=h.rc
def Qa3.le{h:BH}{b:Bk}{M₀:List Qv}(k:Qa3 U h b M₀)(hl:U.le U'):Qa3 U' h b M₀:=
 let ⟨ps,A,h1,h2,h3,h4⟩:=k.ex
 ⟨⟨ps,A,h1,λ p hp=>(h2 p hp).lg hl.lg.frz2,h3,by rw[hl.own];exact h4⟩,k.rs.lg hl.lg.frz2 λ _ _ h=>h,k.rl,k.rn,k.rc⟩
def Zfa:∀(ps:List (Cs×Qao)){U:Qa T}{R:List Qv},(∃w,U.ok w)->(∀p∈ps,Qco U p)->U.M.Perm (ps.flatMap (·.2.F)++R) ->
  ∃U'',Qw U U''/\U''.M.Perm R/\U.frz.lg U''.frz/\∀p∈ps,∃aa al ac,p.2.v=.slice aa al ac/\Z3 U''.frz aa al p.1.af/\al<2^60
 |[],U,R,_,_,hM=>⟨U,.refl _,by simpa using hM,⟨λ _ _ h=>h,⟨[],rfl⟩,rfl⟩,by simp⟩
 |p::ps,U,R,hw,hok,hM=>by
  have hp:=hok p (mem_cons_self ..);rw[flatMap_cons,append_assoc]at hM;obtain⟨U1,k1,k2,k3,a,len,cap,e,hl,hsrc,hsp⟩:=hp.af.freeze (Qrg hw) hM;obtain⟨U2,m1,m2,m3,m4⟩:=Zfa ps (U:=U1) (R:=R) (Qzi hw k1) (λ q hq=>(hok q (mem_cons_of_mem _ hq)).lg k3) (by rw[k2]);refine⟨U2,k1.trans m1,m2,k3.trans m3,λ q hq=>?_⟩;rcases mem_cons.1 hq with rfl|hq
  .simp at hl;subst hl;exact⟨a,_,cap,e,(Qmd hsrc hsp).lg m3,by have:=hp.al;omega⟩
  .exact m4 q hq
def Qa3.freeze{h:BH}{b:Bk}{M₀:List Qv}(k:Qa3 U h b M₀)(hw:∃w,U.ok w)(hcl:b.cs.length<=1000):∃U'',Qw U U''/\U''.M=M₀/\U.frz.lg U''.frz/\Zt U''.frz h b:=by
 obtain⟨ps,A,h1,h2,h3,h4⟩:=k.ex
 have h4':U.M.Perm (ps.flatMap (·.2.F)++(A++M₀)):=h4.trans (by
  rw[<- append_assoc,<- append_assoc];exact Perm.append_right _ perm_append_comm)
 obtain⟨U1,k1,k2,k3,k4⟩:=Zfa ps hw h2 h4';obtain⟨U2,m1,m2,m3,a,len,cap,e,hl,hsrc,hsp⟩:=h3.freeze (Qrg (Qzi hw k1)) k2;cases e;rw[Q0 Z2]at hl;have hlen:b.cs.length=h.cl:=by rw[<- h1,length_map];omega
 refine⟨U2,k1.trans m1,m2,k3.trans m3,k.rs.lg (k3.trans m3) λ _ _ h=>h,⟨hlen,λ i c hc=>?_⟩,k.rl,by omega,k.rn,λ c hc=>?_⟩
 .have hpi:∃p,ps[i]?=some p/\p.1=c:=by
   rw[<- h1,getElem?_map]at hc;cases hx:ps[i]? with
   |none=>rw[hx]at hc;cases hc
   |some p=>rw[hx]at hc;cases hc;exact⟨p,rfl,rfl⟩
  obtain⟨p,hp,rfl⟩:=hpi;have hpm:=mem_of_getElem? hp;obtain⟨aa,al,ac,ev,hi,hal⟩:=k4 p hpm;rcases hsrc with⟨_,hn⟩|⟨ad,hca,hr⟩
  .have:ps=[]:=by
    cases ps with
    |nil=>rfl
    |cons q r=>simp[Qcq]at hn
   subst this;cases hp
  .refine⟨ad,Qcq p,hca,hsp ad hca,⟨p.2.ga,p.2.gl,p.2.gc,aa,al,ac,by rw[<- ev];rfl,(h2 p hpm).gs.lg (k3.trans m3),(h2 p hpm).gl,hi.lg m3,hal⟩,rfl,λ j v hv=>?_⟩;have hj:j<4:=by have:=(List.getElem?_eq_some_iff.1 hv).1;exact this
   have h5:=hr (i*4+j) v (by rw[Qdl Z2 hp hj];exact hv);have hs:=hsp ad hca;obtain⟨bb,oo,ss⟩:=ad;cases hs;rw[Qo]at h5;rw[Qo,Qo,Nat.add_assoc];exact h5
 .rw[<- h1]at hc;obtain⟨p,hp,rfl⟩:=mem_map.1 hc;exact(h2 p hp).nm
end Go.TM
namespace Go.Proofs
open Go.TM
variable{T:Type}{S:TM.Sys prog T}{U:Qa T}
attribute [local irreducible] Qb Zh We
def Zmc:∃inf,prog.info? 22=some inf/\inf.zero=some (.slice none 0 0)/\inf.size=1/\inf.bytes<=64:=by
 have h1:(prog.info? 22).map (·.zero)=some (some (.slice none 0 0)):=by kernel_rfl
 have h2:(prog.info? 22).map (·.size)=some 1:=by kernel_rfl
 have h3:(prog.info? 22).map (λ i=>decide (i.bytes<=64))=some true:=by kernel_rfl
 cases h:prog.info? 22 with
 |none=>rw[h]at h1;cases h1
 |some inf=>
  rw[h]at h1 h2 h3;exact⟨inf,rfl,Option.some.inj h1,Option.some.inj h2,by simpa using h3⟩
def Qgt(c:Cs)(ga aa:Option Addr)(gl gc al ac:Nat)(hg:Wj U.frz ga gl c.gs)(hgl:gl<=1000)(ha:Z3 U.frz aa al c.af)(hal:al<=1000)(hg3:∀g∈c.gs,g.length<=1000)(hnm:c.nm.size<2^60) :
  Qb S 71 #[.agg #[.string c.nm,.int .i64 c.ag,.slice ga gl gc,.slice aa al ac]] (λ v U'=>(∃k:Qao,v=.agg (Qcq (c,k)).toArray/\Qco U' (c,k)/\U'.M=k.F++U.M)/\(∀x o,U.I x=some o->U'.I x=some o)/\U'.tok=U.tok) U:=by
 have hgll:=hg.1;have hall:=ha.1
 have main:Qb S 71 #[.agg #[.string c.nm,.int .i64 c.ag,.slice ga gl gc,.slice aa al ac]] (λ v U'=>∃g v' cells G F Y,v=.agg #[.string c.nm,.int .i64 c.ag,g,v']/\Jx 22 1 g cells G/\Qrn U' cells c.gs/\Jx 3 1 v' (c.af.map λ n=>.int .i64 n) F/\U'.M=F++(G++(Y++U.M))/\(∀x o,U.I x=some o->U'.I x=some o)/\U'.tok=U.tok) U:=by
  refine Qb.of (args:=[_]) Qsu Qd (by simp) ?_;obtain⟨inf,i1,i2,i3,i4⟩:=Zmc
  conv=>whnf
  intro b1 hf1
  conv=>whnf
  intro b2 hf2;refine⟨_,.refl _,?_⟩;have hM:((U.put b1 (.cells [.string c.nm,.int .i64 c.ag,.slice ga gl gc,.slice aa al ac].toArray 48)).put b2 (.cells #[.string ⟨#[]⟩,.int .i64 0,.slice none 0 0,.slice none 0 0] 48)).M=[.obj b2 (.cells #[.string ⟨#[]⟩,.int .i64 0,.slice none 0 0,.slice none 0 0] 48 (0,0))]++.obj b1 (.cells [.string c.nm,.int .i64 c.ag,.slice ga gl gc,.slice aa al ac].toArray 48 (0,0))::U.M:=rfl;have hlp:U.frz.lg ((U.put b1 (.cells [.string c.nm,.int .i64 c.ag,.slice ga gl gc,.slice aa al ac].toArray 48)).put b2 (.cells #[.string ⟨#[]⟩,.int .i64 0,.slice none 0 0,.slice none 0 0] 48)):=⟨λ _ _ h=>h,⟨_,(append_nil _).symm⟩,rfl⟩;refine⟨_,(Q7 [_] hM).cell (i:=2) rfl,?_⟩
  conv=>whnf
  refine Q6l (n:=gl) Zms i1 i2 rfl i3 i4 rfl rfl (by omega) λ bg hbg=>?_;have hM1:(((U.put b1 (.cells [.string c.nm,.int .i64 c.ag,.slice ga gl gc,.slice aa al ac].toArray 48)).put b2 (.cells #[.string ⟨#[]⟩,.int .i64 0,.slice none 0 0,.slice none 0 0] 48)).put bg (.cells (replicate gl (Value.slice none 0 0)).toArray 22)).M=[.obj bg (.cells (replicate gl (Value.slice none 0 0)).toArray 22 (0,0)),.obj b2 (.cells #[.string ⟨#[]⟩,.int .i64 0,.slice none 0 0,.slice none 0 0] 48 (0,0))]++.obj b1 (.cells [.string c.nm,.int .i64 c.ag,.slice ga gl gc,.slice aa al ac].toArray 48 (0,0))::U.M:=rfl;refine⟨_,(Q7 [_,_] hM1).cell (i:=2) rfl,Nat×Value,λ y=>[(1,.pointer (some ⟨b1,0,none⟩)),(2,.pointer (some ⟨b2,0,none⟩)),(3,y.2),(11,.slice ga gl gc),(12,.int .i64 gl),(13,.int .i64 y.1)],
   λ y U'=>U.frz.lg U'/\(∃A cells,U'.M=A++([.obj b2 (.cells #[.string ⟨#[]⟩,.int .i64 0,.slice none 0 0,.slice none 0 0] 48 (0,0)),.obj b1 (.cells [.string c.nm,.int .i64 c.ag,.slice ga gl gc,.slice aa al ac].toArray 48 (0,0))]++U.M)/\Jx 22 1 y.2 cells A/\Qrn U' cells (c.gs.take y.1))/\y.1<=gl,λ y=>gl-y.1,(0,.slice (some ⟨bg,0,none⟩) 0 gl),by trivial,⟨⟨λ _ _ h=>h,⟨_,(append_nil _).symm⟩,rfl⟩,⟨[_],[],rfl,.ofBlk rfl (by omega) (by simp) (by simp),⟨rfl,by simp⟩⟩,by omega⟩,?_⟩
  rintro⟨i,v⟩f U1⟨hlg,⟨A,cells,hMA,hacc,henc⟩,hi⟩;simp only at hacc henc hi;obtain⟨sa,sl,sc,rfl,hsl⟩:=hacc.src;have hin:Zm ((i:Int)+1):=by unfold Zm;omega
  have hcl:=henc.1;rw[length_take]at hcl
  repeat refine⟨rfl,?_⟩
  conv=>whnf
  apply Qe<;>intro hc
  .have hlt:i<gl:=by simpa using hc
   obtain⟨ad,g,vs,hx,rfl,hsp,⟨a',len',cap',rfl,hg1,hg2⟩,-,hrd⟩:=Qx.at (Wj.lg hg hlg) hlt;have hgn:=hg3 g (mem_of_getElem? hx);have hg1l:=hg1.1;refine⟨ad,i,⟨rfl,rfl,hlt⟩,_,hrd 0 _ rfl,Qfd.any,(Qb.ints (e:=3) (Qjg a' len' cap' g hg1 (by omega))).mono ?_⟩;rintro _ U2⟨⟨ca,cc,rfl,hci⟩,h_2⟩-
   conv=>whnf
   intro bn hfn;refine Zk hfn λ U3 h_3 hbn=>?_;have hbn:Zd U3 bn #[.slice ca g.length cc]:=hbn;have hl_3:=h_2.trans h_3
   have henc':Qrn U3 (cells++[.slice ca g.length cc]) (c.gs.take (i+1)):=by
    rw[Jt hx];exact(henc.lg hl_3.lg.frz2).snoc (hci.lg h_3.lg.frz2) (by omega)
   conv=>whnf
   refine Ws (v:=.slice sa sl sc) (cs:=cells) (new:=[.slice ca g.length cc]) (M₀:=[.obj b2 (.cells #[.string ⟨#[]⟩,.int .i64 0,.slice none 0 0,.slice none 0 0] 48 (0,0)),.obj b1 (.cells [.string c.nm,.int .i64 c.ag,.slice (some ad) gl gc,.slice aa al ac].toArray 48 (0,0))]++U.M) Zhs rfl rfl (by rw[hl_3.own,hMA];exact hacc _) (.inr ⟨_,rfl,hbn.reads (λ k v hv=>by simpa using hv)⟩) rfl (by simp[Value.single]) (by simp;omega) λ v' M' ha' _=>?_;obtain⟨A_2,hM',ha_2⟩:=ha'.split;obtain⟨ta,tl,tc,rfl,-⟩:=ha_2.src;have hlg':U.frz.lg ({ U3 with M:=M' }:Qa T):=⟨λ x o h=>hl_3.imm x o (hlg.imm x o h),⟨_,(append_nil _).symm⟩,hl_3.tok.trans hlg.tok⟩;refine⟨hin,?_⟩
   conv=>whnf
   exact⟨rfl,(i+1,.slice ta tl tc),by trivial,⟨hlg',⟨A_2,_,hM',ha_2,henc'.lg ⟨λ _ _ h=>h,⟨[],rfl⟩,rfl⟩⟩,by show i+1<=gl;omega⟩,by show _-_<_-_;omega⟩
  .have hge:i=c.gs.length:=by simp at hc;omega
   subst hge;rw[take_length]at henc;have hrd1:=Q7 (U:=U1) (b:=b1) (e:=48) (M₀:=U.M) (vs:=[.string c.nm,.int .i64 c.ag,.slice ga gl gc,.slice aa al ac]) (A++[.obj b2 (.cells #[.string ⟨#[]⟩,.int .i64 0,.slice none 0 0,.slice none 0 0] 48 (0,0))]) (by rw[hMA];simp);refine⟨_,hrd1.cell (i:=3) rfl,Qfd.any,(Qjg aa al ac c.af (ha.lg hlg) (by omega)).mono ?_⟩;rintro v U2⟨haf,hI_2,ht_2⟩-;obtain⟨F,hMF,hF⟩:=haf.split;obtain⟨fa,fl,fc,rfl,-⟩:=hF.src;have hM2:U2.M=(F++A++[.obj b2 (.cells #[.string ⟨#[]⟩,.int .i64 0,.slice none 0 0,.slice none 0 0] 48 (0,0))])++.obj b1 (.cells [.string c.nm,.int .i64 c.ag,.slice ga gl gc,.slice aa al ac].toArray 48 (0,0))::U.M:=by rw[hMF,hMA];simp
   refine⟨rfl,Qbk (i:=2) (v:=.slice sa sl sc) _ hM2 (by show 2<4;omega) rfl λ U3 hI3 ht3 hM_3=>?_⟩;refine⟨rfl,Qbk (i:=3) (v:=.slice fa fl fc) _ hM_3 (by show 3<4;omega) rfl λ U4 hI_4 ht4 hM4=>?_⟩;have hM4:U4.M=(F++A++[.obj b2 (.cells #[.string ⟨#[]⟩,.int .i64 0,.slice none 0 0,.slice none 0 0] 48 (0,0))])++.obj b1 (.cells [.string c.nm,.int .i64 c.ag,.slice sa sl sc,.slice fa fl fc].toArray 48 (0,0))::U.M:=hM4;have hM4':U4.M=(F++A)++.obj b2 (.cells #[.string ⟨#[]⟩,.int .i64 0,.slice none 0 0,.slice none 0 0] 48 (0,0))::.obj b1 (.cells [.string c.nm,.int .i64 c.ag,.slice sa sl sc,.slice fa fl fc].toArray 48 (0,0))::U.M:=by rw[hM4];simp
   refine⟨_,⟨rfl,Q7 _ hM4⟩,rfl,Js (vs:=[.string c.nm,.int .i64 c.ag,.slice sa sl sc,.slice fa fl fc]) _ hM4' rfl (by simp[Value.single]) λ U5 hI_5 ht_5 hM_5=>?_⟩;refine⟨_,⟨rfl,Q7 _ hM_5⟩,?_⟩;have hz:U1.frz.lg U5.frz:=⟨λ x o h=>by show U5.I x=_;rw[hI_5,hI_4,hI3];exact hI_2 x o h,⟨[],rfl⟩,by show U5.tok=_;rw[ht_5,ht4,ht3];exact ht_2⟩
   conv=>whnf
   exact⟨_,_,cells,A,F,[_,_],rfl,hacc,henc.lg hz,hF,by rw[hM_5];simp;exact⟨rfl,rfl⟩,λ x o h=>hz.imm x o (hlg.imm x o h),hz.tok.trans hlg.tok⟩
 refine main.okv λ v U' hw⟨g,v',cells,G,F,Y,hv,hG,henc,hF,hM,hI,ht⟩=>?_
 have hp:U'.M.Perm (G++(F++(Y++U.M))):=by
  rw[hM];exact perm_append_comm_assoc _ _ _
 obtain⟨U1,k1,k2,k3,a,len,cap,rfl,hl,hsrc,hsp⟩:=hG.freeze (Qrg hw) hp;have hlen:c.gs.length=len:=by rw[<- henc.1];omega
 have hls:=(henc.lg k3).lists hsrc hsp;rw[hlen]at hls;refine⟨{ U1 with M:=F++U.M },k1.trans (Z4 (by rw[k2];exact(Sublist.refl F).append (sublist_append_right Y U.M))),⟨⟨a,len,cap,v',F⟩,hv,⟨hls,by show len<_;omega,hF,hnm,by show c.af.length<=_;omega⟩,rfl⟩,λ x o h=>k3.imm x o (hI x o h),k3.tok.trans ht⟩
def Qpf:List (List (Nat×St)):=[[(0,.xo 19 1 3),(0,.xl 20 19),(0,.xd 21 4 5),(2,.d 22 (.call (.func 71) #[(.t 21)])),(2,.d 23 (.bsl 48 1 #[(.string ⟨#[]⟩),(.int .i64 0),(.slice none 0 0),(.slice none 0 0)] [(0,4,(.t 22))]))]]
def Q4e:List St:=[.xz 24 20 23 41,.xo 25 1 3,⟨.st 1 (.t 25) (.t 24),none,none,none⟩]
def Qkx:List (List (Nat×St)):=[[(0,.xo 152 1 10),(0,.xl 153 152),(0,.m 154 15),(0,.xo 155 1 10),(0,.xl 156 155),(0,.m 157 15),(0,.xi 158 4 156 157),(0,.xo 159 3 158),(0,.xl 160 159),(0,.m 161 17),(2,.d 162 (.bsl 3 1 #[(.int .i64 0)] [(0,1,(.t 161))])),(2,.xz 163 160 162 22)]]
def Q0e:List St:=[.xi 164 4 153 154,.xo 165 3 164,⟨.st 1 (.t 165) (.t 163),none,none,none⟩]
end Go.Proofs
namespace Go.TM
def Qx.case{T:Type}{U:Qa T}{h:BH}{b:Bk}(k:Qx U h.ca h.cl 4 b.cs (Q1z U)){i:Nat}(hi:i<h.cl) :
  ∃ad c ga gl gc aa al ac,b.cs[i]?=some c/\h.ca=some ad/\ad.spot=none/\Z7 U (ad.add (i*4)) [.string c.nm,.int .i64 c.ag,.slice ga gl gc,.slice aa al ac]/\Wj U ga gl c.gs/\gl<2^60/\Z3 U aa al c.af/\al<2^60/\c∈b.cs:=by
 obtain⟨ad,c,vs,hx,hea,hsp,⟨ga,gl,gc,aa,al,ac,rfl,h1,h2,h3,h4⟩,-,hrd⟩:=k.at hi;exact⟨ad,c,ga,gl,gc,aa,al,ac,hx,hea,hsp,hrd,h1,h2,h3,h4,mem_of_getElem? hx⟩
structure Bk.Sml(b:Bk):Prop where
 rs:b.rs.length<=1000
 cs:b.cs.length<=1000
 gs:∀c∈b.cs,c.gs.length<=1000/\(∀g∈c.gs,g.length<=1000)/\c.af.length<=1000
end Go.TM
namespace Go.Proofs
open Go.TM
variable{T:Type}{S:TM.Sys prog T}{U:Qa T}
attribute [local irreducible] Qb Zh We
set_option maxHeartbeats 1000000 in
def Q4q(h:BH)(b:Bk)(hb:Zt U.frz h b)(hs:b.Sml) :
  Qb S 114 #[h.v] (λ v U'=>(∃h':BH,v=h'.v/\Qa3 U' h' b U.M)/\(∀x o,U.I x=some o->U'.I x=some o)/\U'.tok=U.tok) U:=by
 have hcl:=hb.cs.1;have hrl:=hb.rs.1;have hs1:=hs.rs;have hs2:=hs.cs
 have main:Qb S 114 #[h.v] (λ v U'=>∃(h':BH)(ps:List (Cs×Qao))(A R Y:List Qv),v=h'.v/\ps.map (·.1)=b.cs/\(∀p∈ps,Qco U' p)/\Jx 48 4 (.slice h'.ca h'.cl h'.cc) (ps.flatMap Qcq) A/\U'.M=A++(R++(Y++U.M))/\R.Perm (ps.flatMap (·.2.F))/\Qx U'.frz h'.ra h'.rl 1 b.rs (λ s vs=>vs=[.string s])/\h'.rl<=h'.rc/\(∀x o,U.I x=some o->U'.I x=some o)/\U'.tok=U.tok) U:=by
  refine Qb.of (args:=[_]) Qxy Qd (by simp) ?_
  repeat refine⟨rfl,?_⟩
  conv=>whnf
  intro B U1 h_1 hB;have hB:Zd U1 B #[.slice h.ra h.rl h.rc,.slice h.ca h.cl h.cc]:=hB
  conv=>whnf
  intro b2 hf2;refine⟨_,.refl _,?_⟩;have hlp:=Z0 (U:=U1) b2 (.cells #[.slice none 0 0,.slice none 0 0] 90);refine⟨_,(hB.lg hlp).sees3 (o:=0) rfl,Qst.any,(Qhj h.ra h.rl h.rc b.rs ((hb.rs.lg (h_1.lg.frz2.trans hlp.frz2) λ _ _ h=>h).lg Qq λ _ _ h=>h) (by omega)).mono ?_⟩;rintro _ U2⟨⟨ra,rl,rc,rfl,hroom,hrs⟩,h_2⟩-
  conv=>whnf
  intro b3 hf3;refine⟨_,.refl _,rfl,Qgn (vs:=[.slice ra rl rc,.slice none 0 0]) rfl (by simp[Value.single]) ?_⟩;have hlp3:=Z0 (U:=U2) b3 (.cells #[.slice ra rl rc,.slice none 0 0] 43);have hlg2:U1.lg U2:=hlp.trans h_2.lg;refine⟨_,(hB.lg (hlg2.trans hlp3)).sees3 (o:=1) rfl,?_⟩;have hf_2:U.frz.lg U2.frz:=h_1.lg.frz2.trans hlg2.frz2
  refine⟨Nat×Value,λ y=>[(1,.pointer (some ⟨B,0,none⟩)),(2,.pointer (some ⟨b2,0,none⟩)),(3,.pointer (some ⟨b3,0,none⟩)),(13,.slice h.ca h.cl h.cc),(14,.int .i64 h.cl),(15,.int .i64 y.1)],
   λ y U'=>U2.frz.lg U'/\(∃(ps:List (Cs×Qao))(A R:List Qv),ps.map (·.1)=b.cs.take y.1/\(∀p∈ps,Qco U' p)/\Jx 48 4 y.2 (ps.flatMap Qcq) A/\R.Perm (ps.flatMap (·.2.F))/\U'.M=A++(R++([.obj b3 (.cells [.slice ra rl rc,y.2].toArray 43 (0,0)),.obj b2 (.cells #[.slice none 0 0,.slice none 0 0] 90 (0,0))]++U.M)))/\y.1<=h.cl,
   λ y=>h.cl-y.1,(0,.slice none 0 0),by trivial,⟨⟨λ _ _ h=>h,⟨_,(append_nil _).symm⟩,rfl⟩,⟨[],[],[],rfl,by simp,.nil,.refl _,?_⟩,by omega⟩,?_⟩
  .show _::U2.M=_;rw[h_2.own];show _::_::U1.M=_;rw[h_1.own];rfl
  rintro⟨i,v⟩f U3⟨hlg,⟨ps,A,R,hps,hok,hacc,hR,hM⟩,hi⟩;simp only at hps hacc hM hi;obtain⟨sa,sl,sc,rfl,hsl⟩:=hacc.src;have hin:Zm ((i:Int)+1):=by unfold Zm;omega
  have hpl:ps.length=i:=by
   have:=congrArg List.length hps;rw[length_map,length_take]at this;omega
  repeat refine⟨rfl,?_⟩
  conv=>whnf
  apply Qe<;>intro hc
  .have hlt:i<h.cl:=by simpa using hc
   obtain⟨ad,c,ga,gl,gc,aa,al,ac,hx,hea,hspa,hrd,hg,hgl,ha,hal,hmem⟩:=hb.case hlt;obtain⟨hg1,hg2,hg3⟩:=hs.gs c hmem;have hgll:=hg.1;have hall:=ha.1;refine⟨ad,i,⟨hea,rfl,hlt⟩,_,⟨rfl,(hrd.lg hf_2).lg hlg⟩,?_⟩
   conv=>whnf
   intro b5 hf5;refine⟨_,.refl _,rfl,Zs (vs:=[.string c.nm,.int .i64 c.ag,.slice ga gl gc,.slice aa al ac]) hf5 rfl (by simp[Value.single]) λ U4 h_4 hb5=>?_⟩;have hM4:=h_4.own.trans hM;have hlg_4:=hlg.trans h_4.lg;have hf_4:U.frz.lg U4.frz:=hf_2.trans hlg_4.frz2;have hcnm:=hb.cn c hmem
   let Ub:Qa T:={ U4 with M:=R++([.obj b3 (.cells [.slice ra rl rc,.slice sa sl sc].toArray 43 (0,0)),.obj b2 (.cells #[.slice none 0 0,.slice none 0 0] 90 (0,0))]++U.M) }
   have hUb:Ub.lg U4:=⟨λ _ _ h=>h,⟨A,hM4⟩,rfl⟩;have hrb3:Z7 Ub ⟨b3,0,none⟩ [.slice ra rl rc,.slice sa sl sc]:=Q7 R rfl;have hb5b:Zd Ub b5 #[.string c.nm,.int .i64 c.ag,.slice ga gl gc,.slice aa al ac]:=hb5
   conv=>whnf
   intro acc0 hfr0
   refine Qy6 (mu:=[1005]) (ops:=Q6m Tryz.f114 5) (id:=5) hfr0 Ub hUb [3,4] [[0,1,2,3,4]] [5,6,7] Qpf Q4e Qd (by kernel_rfl) (by kernel_rfl) (by kernel_rfl) (by kernel_rfl) (by kernel_rfl)
    (λ f' ds' U'=>ds'=[]/\∃(b23:Nat)(k:Qao),Qjc f' [(1,.pointer (some ⟨B,0,none⟩)),(2,.pointer (some ⟨b2,0,none⟩)),(3,.pointer (some ⟨b3,0,none⟩)),(13,.slice h.ca h.cl h.cc),(14,.int .i64 h.cl),(15,.int .i64 i),(20,.slice sa sl sc),(23,.slice (some ⟨b23,0,none⟩) 1 1)]/\Qco U' (c,k)/\Zd U' b23 (Qcq (c,k)).toArray/\U4.frz.lg U'/\U'.M=A++(k.F++(R++([.obj b3 (.cells [.slice ra rl rc,.slice sa sl sc].toArray 43 (0,0)),.obj b2 (.cells #[.slice none 0 0,.slice none 0 0] 90 (0,0))]++U.M)))) ?_ ?_
   .intro l hl;simp only[Qpf,mem_cons,not_mem_nil,or_false]at hl;subst hl;refine⟨_,hrb3.cell (i:=1) rfl,_,⟨rfl,hb5b.reads (λ k v hv=>by simpa using hv)⟩,?_⟩;refine⟨λ v U'=>∃k:Qao,v=.agg (Qcq (c,k)).toArray/\Qco U' (c,k)/\U4.frz.lg U'/\U'.M=A++(k.F++(R++([.obj b3 (.cells [.slice ra rl rc,.slice sa sl sc].toArray 43 (0,0)),.obj b2 (.cells #[.slice none 0 0,.slice none 0 0] 90 (0,0))]++U.M))),λ v U1 U2⟨k,e,hk,hl,hM⟩hle=>⟨k,e,hk.lg hle.lg.frz2,hl.trans hle.lg,hle.own.trans hM⟩,λ v U'⟨k,e,hk,hl,hM⟩=>⟨hl.imm,⟨A++k.F,by rw[hM];simp[Ub]⟩,hl.tok⟩,λ U' hC=>?_,λ v hv=>?_⟩
    .have hle:=hC;refine⟨Qsu.any,(Qgt c ga aa gl gc al ac (hg.lg (hf_4.trans hle.lg.frz2)) (by omega) (ha.lg (hf_4.trans hle.lg.frz2)) (by omega) hg2 hcnm).mono ?_⟩;rintro v U''⟨⟨k,e,hk,hMk⟩,hI,ht⟩-
     have hp:U''.M.Perm (A++(k.F++(R++([.obj b3 (.cells [.slice ra rl rc,.slice sa sl sc].toArray 43 (0,0)),.obj b2 (.cells #[.slice none 0 0,.slice none 0 0] 90 (0,0))]++U.M)))):=by
      rw[hMk,hle.own,hM4];exact perm_append_comm_assoc _ _ _
     exact⟨_,Qaa hp,k,e,hk.lg ⟨λ _ _ h=>h,⟨[],rfl⟩,rfl⟩,⟨λ x o hx=>hI x o (hle.imm x o hx),⟨_,(append_nil _).symm⟩,ht.trans hle.tok⟩,rfl⟩
    obtain⟨_,⟨kga,kgl,kgc,kv,kF⟩,rfl,hk0,-⟩:=hv;obtain⟨a0,l0,c0,e0,-⟩:=hk0.af.src;obtain rfl:kv=.slice a0 l0 c0:=e0;refine⟨λ v U'=>∃(b23:Nat)(k':Qao),v=.slice (some ⟨b23,0,none⟩) 1 1/\Qco U' (c,k')/\Zd U' b23 (Qcq (c,k')).toArray/\U4.frz.lg U'/\U'.M=A++(k'.F++(R++([.obj b3 (.cells [.slice ra rl rc,.slice sa sl sc].toArray 43 (0,0)),.obj b2 (.cells #[.slice none 0 0,.slice none 0 0] 90 (0,0))]++U.M))),λ v U1 U2⟨b23,k,e,hk,hbb,hl,hM⟩hle=>⟨b23,k,e,hk.lg hle.lg.frz2,hbb.le hle,hl.trans hle.lg,hle.own.trans hM⟩,λ v U'⟨b23,k,e,hk,hbb,hl,hM⟩=>⟨hl.imm,⟨A++k.F,by rw[hM];simp[Ub]⟩,hl.tok⟩,λ U' hC=>?_,λ v hv=>?_⟩
    .obtain⟨k',e,hk',hl',hM'⟩:=hC
     conv=>whnf
     intro b23 hf23;refine Zk hf23 λ U'' hle hbb=>⟨_,.refl _,b23,k',rfl,hk'.lg hle.lg.frz2,?_,hl'.trans hle.lg,hle.own.trans hM'⟩;have e':=toArray_inj (Value.agg.inj e);rw[<- e'];exact hbb
    obtain⟨_,b23,k2,rfl,-⟩:=hv
    conv=>whnf
    rintro U'⟨b23',k',e,hk',hbb,hl',hM'⟩;obtain rfl:b23=b23':=by simpa using e
    exact⟨rfl,b23,k',by trivial,hk',hbb,hl',hM'⟩
   rintro f' ds' U5⟨rfl,b23,k,hfr,hk,hbb,hlg_5,hM_5⟩;rw[<- hfr.ovr];clear hfr;have hlen:(ps.flatMap Qcq).length=i*4:=by rw[Q0 Z2,hpl]
   conv=>whnf
   refine Ws (v:=.slice sa sl sc) (cs:=ps.flatMap Qcq) (new:=Qcq (c,k)) (M₀:=k.F++(R++([.obj b3 (.cells [.slice ra rl rc,.slice sa sl sc].toArray 43 (0,0)),.obj b2 (.cells #[.slice none 0 0,.slice none 0 0] 90 (0,0))]++U.M))) Qyp rfl rfl (by rw[hM_5];exact hacc _) (.inr ⟨_,rfl,hbb.reads (λ k v hv=>by simpa using hv)⟩) rfl (by
    have:=hk.af.src;obtain⟨a0,l0,c0,e0,-⟩:=this;simp only[Qcq];rw[show k.v=.slice a0 l0 c0 from e0];simp[Value.single]) (by rw[hlen,Z2];omega) λ v' M' ha' _=>?_
   obtain⟨A_2,hM',ha_2⟩:=ha'.split;obtain⟨ta,tl,tc,rfl,-⟩:=ha_2.src;have hM2:({ U5 with M:=M' }:Qa T).M=(A_2++(k.F++R))++.obj b3 (.cells [.slice ra rl rc,.slice sa sl sc].toArray 43 (0,0))::.obj b2 (.cells #[.slice none 0 0,.slice none 0 0] 90 (0,0))::U.M:=by show M'=_;rw[hM'];simp
   refine⟨rfl,Qbk (i:=1) (v:=.slice ta tl tc) _ hM2 (by show 1<2;omega) rfl λ U6 hI_6 ht_6 hM_6=>?_⟩;have hM_6:U6.M=A_2++((k.F++R)++([.obj b3 (.cells [.slice ra rl rc,.slice ta tl tc].toArray 43 (0,0)),.obj b2 (.cells #[.slice none 0 0,.slice none 0 0] 90 (0,0))]++U.M)):=by rw[hM_6];simp
   have hl56:U5.frz.lg U6.frz:=⟨λ x o hx=>by show U6.I x=_;rw[hI_6];exact hx,⟨[],rfl⟩,ht_6⟩;have hl46:U4.frz.lg U6.frz:=hlg_5.frz2.trans hl56;have hl36:U3.frz.lg U6.frz:=h_4.lg.frz2.trans hl46
   conv=>whnf
   intro a' hf';refine⟨by rw[hf'.size,hfr0.size],_,hf'.get,?_⟩;rw[hf'.ds];clear hf' hfr0;refine⟨hin,rfl,(i+1,.slice ta tl tc),by trivial,⟨⟨λ x o hx=>hl36.imm x o (hlg.imm x o hx),⟨_,(append_nil _).symm⟩,hl36.tok.trans hlg.tok⟩,⟨ps++[(c,k)],A_2,k.F++R,?_,?_,?_,?_,hM_6⟩,by show i+1<=h.cl;omega⟩,by show _-_<_-_;omega⟩
   .rw[map_append,hps,Jt hx];rfl
   .intro p hp;rcases mem_append.1 hp with hp|hp
    .exact(hok p hp).lg hl36
    .rw[mem_singleton.1 hp];exact hk.lg hl56
   .rw[flatMap_append];simpa using ha_2
   .rw[flatMap_append];simp only[flatMap_cons,flatMap_nil,append_nil];exact(Perm.append_left k.F hR).trans perm_append_comm
  .have hge:i=b.cs.length:=by simp at hc;omega
   subst hge;rw[take_length]at hps;have hM3:U3.M=(A++R)++.obj b3 (.cells [.slice ra rl rc,.slice sa sl sc].toArray 43 (0,0))::.obj b2 (.cells #[.slice none 0 0,.slice none 0 0] 90 (0,0))::U.M:=by rw[hM];simp
   have hM3':U3.M=(A++R++[.obj b3 (.cells [.slice ra rl rc,.slice sa sl sc].toArray 43 (0,0))])++.obj b2 (.cells #[.slice none 0 0,.slice none 0 0] 90 (0,0))::U.M:=by rw[hM];simp
   refine⟨_,⟨rfl,Q7 _ hM3⟩,rfl,Js (vs:=[.slice ra rl rc,.slice sa sl sc]) _ hM3' rfl (by simp[Value.single]) λ U4 hI_4 ht4 hM4=>?_⟩;have hl34:U3.frz.lg U4.frz:=⟨λ x o hx=>by show U4.I x=_;rw[hI_4];exact hx,⟨[],rfl⟩,ht4⟩;refine⟨_,⟨rfl,Q7 _ hM4⟩,?_⟩
   conv=>whnf
   exact⟨⟨ra,rl,rc,sa,sl,sc⟩,ps,A,R,[_,_],rfl,hps,λ p hp=>(hok p hp).lg hl34,hacc,by rw[hM4];simp;exact⟨rfl,rfl⟩,hR,hrs.lg (hlg.frz2.trans hl34) λ _ _ h=>h,hroom,λ x o hx=>hl34.imm x o (hlg.imm x o (hf_2.imm x o hx)),hl34.tok.trans (hlg.tok.trans hf_2.tok)⟩
 refine main.post λ v U'⟨h',ps,A,R,Y,hv,hps,hok,hacc,hM,hR,hrs,hroom,hI,ht⟩=>?_;have hrl':=hrs.1;refine⟨{ U' with M:=A++(R++U.M) },Z4 (by rw[hM];exact(Sublist.refl A).append ((Sublist.refl R).append (sublist_append_right Y U.M))),⟨h',hv,⟨⟨ps,A,hps,λ p hp=>(hok p hp).lg ⟨λ _ _ h=>h,⟨[],rfl⟩,rfl⟩,hacc,Perm.append_left A (Perm.append_right _ hR)⟩,hrs.lg ⟨λ _ _ h=>h,⟨[],rfl⟩,rfl⟩ λ _ _ h=>h,by omega,hb.rn,hroom⟩⟩,hI,ht⟩
end Go.Proofs
namespace Go.TM
variable{T:Type}{P:Program}{S:Sys P T}{U:Qa T}
def Qrs(l:List Int):Prop:=l.Pairwise (·<=·)
def Zon{l:List Int}(h:Qg9 l l.length):Qrs l:=by
 rw[Qrs,pairwise_iff_getElem];intro i j hi hj hij;exact h i j _ _ hij hj (getElem?_eq_getElem hi) (getElem?_eq_getElem hj)
def Qh7(n x:Int):∀l:List Int,x∈Qcz n l↔x=n\/x∈l
 |[]=>by simp[Qcz]
 |y::l=>by
  unfold Qcz;split
  .simp only[mem_cons,Qh7 n x l];constructor
   .rintro(h|h|h) <;> simp[h]
   .rintro(h|h|h) <;> simp[h]
  .simp only[mem_cons]
def Qvs(n:Int):∀l:List Int,Qrs l->Qrs (Qcz n l)
 |[],_=>by simp[Qcz,Qrs]
 |y::l,h=>by
  unfold Qrs at h;rw[pairwise_cons]at h;unfold Qcz;split
  .rename_i hlt;unfold Qrs;rw[pairwise_cons];refine⟨λ x hx=>?_,Qvs n l h.2⟩;rcases(Qh7 n x l).1 hx with rfl|hx
   .omega
   .exact h.1 x hx
  .rename_i hge;unfold Qrs;rw[pairwise_cons,pairwise_cons];refine⟨λ x hx=>?_,h⟩;rcases mem_cons.1 hx with rfl|hx
   .omega
   .have:=h.1 x hx;omega
def Qi1(n:Int):∀l:List Int,(Qcz n l).Perm (l++[n])
 |[]=>by simp[Qcz]
 |y::l=>by
  unfold Qcz;split
  .exact(Qi1 n l).cons y
  .exact(perm_append_comm (l₁:=[n]) (l₂:=y::l))
def Zqc{n:Int}{l l':List Int}(h:Qrs l)(h1:l'.Perm (l++[n]))(h2:Qg9 l' l'.length):l'=Qcz n l:=
 Perm.eq_of_pairwise (le:=(·<=·)) (λ a b _ _ h1 h2=>by omega) (Zon h2) (Qvs n l h) (h1.trans (Qi1 n l).symm)
def Q6r{α:Type}{l:List α}{i:Nat}{a:α}(h:l[i]?=some a):∃X Y,l=X++a::Y/\X.length=i/\∀a',l.set i a'=X++a'::Y:=by
 obtain⟨hlt,rfl⟩:=List.getElem?_eq_some_iff.1 h;refine⟨l.take i,l.drop (i+1),?_,by simp;omega,λ a'=>?_⟩
 .rw[getElem_cons_drop,take_append_drop]
 .rw[set_eq_take_append_cons_drop,if_pos hlt]
end Go.TM
namespace Go.Proofs
open Go.TM
variable{T:Type}{S:TM.Sys prog T}{U:Qa T}
attribute [local irreducible] Qb Zh We
def Q0n(h:BH)(b:Bk)(M₀:List Qv)(ho:Qa3 U h b M₀)(k:Nat)(n:Int)(hk:k<b.cs.length)(hsrt:Qrs (b.cas k).af)(hlen:(b.cas k).af.length<=11) :
  Qb S 115 #[h.v,.agg #[.int .i64 k,.int .i64 n]] (λ _ U'=>Qa3 U' h (b.sty ((k:Int),n)) M₀/\(∀x o,U.I x=some o->U'.I x=some o)/\U'.tok=U.tok) U:=by
 obtain⟨ps,A,hps,hok,hacc,hM⟩:=ho.ex;have hkl:k<ps.length:=by rw[<- hps,length_map]at hk;exact hk
 obtain⟨p,hp⟩:∃p,ps[k]?=some p:=⟨_,getElem?_eq_getElem hkl⟩;obtain⟨X,Y,rfl,hX,hset⟩:=Q6r hp;obtain⟨c,kga,kgl,kgc,kv,kF⟩:=p
 have hcas:b.cas k=c:=by
  have:=congrArg (λ l=>l[k]?) hps;simp only[getElem?_map,hp]at this;simp[Bk.cas,getD_eq_getElem?_getD,<- this]
 rw[hcas]at hsrt hlen;have hpk:=hok _ (mem_of_getElem? hp);obtain⟨a0,l0,c0,e0,hl0⟩:=hpk.af.src;obtain rfl:kv=.slice a0 l0 c0:=e0;have hF:Jx 3 1 (.slice a0 l0 c0) (c.af.map λ n=>.int .i64 n) kF:=hpk.af;obtain⟨cb,cc,clen,ccap,ecs,hcl1,hcl2,hcl3,rfl,hcc⟩:=hacc.blk (by simp[Qcq]);have hcl:h.cl=clen:=by have:=Value.slice.inj ecs;exact this.2.1
 have hca:h.ca=some ⟨cb,0,none⟩:=by have:=Value.slice.inj ecs;exact this.1
 have hcap:h.cc=ccap:=by have:=Value.slice.inj ecs;exact this.2.2
 have hclk:k<h.cl:=by
  rw[Q0 Z2]at hcl1;omega
 have hperm:U.M.Perm (kF++(.obj cb (.cells cc.toList.toArray 48 (0,0))::((X.flatMap (·.2.F)++Y.flatMap (·.2.F))++M₀))):=by
  refine hM.trans ?_;rw[flatMap_append,flatMap_cons];show Perm (.obj cb (.cells cc 48 (0,0))::(X.flatMap (·.2.F)++(kF++Y.flatMap (·.2.F))++M₀)) _;refine Perm.trans (Perm.cons _ ?_) perm_middle.symm;rw[<- append_assoc kF];refine Perm.append_right _ ?_;rw[<- append_assoc,<- append_assoc];exact Perm.append_right _ perm_append_comm
 have hcell:∀j,j<4->cc.toList[k*4+j]?=(Qcq (c,⟨kga,kgl,kgc,.slice a0 l0 c0,kF⟩))[j]?:=by
  intro j hj;have h1:=Qdl Z2 hp hj;have h2:∃x,(Qcq (c,(⟨kga,kgl,kgc,.slice a0 l0 c0,kF⟩:Qao)))[j]?=some x:=⟨_,getElem?_eq_getElem (by rw[Z2];exact hj)⟩;obtain⟨x,hx⟩:=h2;rw[hx]at h1 ⊢;rw[Array.getElem?_toList];exact hcc _ _ h1
 refine Qb.shift (Qaa hperm) ?_;generalize hrest:(X.flatMap (·.2.F)++Y.flatMap (·.2.F))++M₀=rest at hperm ⊢;generalize hU0:({ U with M:=kF++(.obj cb (.cells cc.toList.toArray 48 (0,0))::rest) }:Qa T)=U₀;have hM_0:U₀.M=kF++(.obj cb (.cells cc.toList.toArray 48 (0,0))::rest):=by rw[<- hU0]
 have hz0:U.frz.lg U₀.frz:=by rw[<- hU0];exact⟨λ _ _ h=>h,⟨[],rfl⟩,rfl⟩
 have main:Qb S 115 #[h.v,.agg #[.int .i64 k,.int .i64 n]] (λ _ U'=>(∃v' F',Jx 3 1 v' ((Qcz n c.af).map λ n=>.int .i64 n) F'/\v'.single=true/\U'.M=F'++(.obj cb (.cells (cc.setIfInBounds (k*4+3) v') 48 (0,0))::rest))/\(∀x o,U₀.I x=some o->U'.I x=some o)/\U'.tok=U₀.tok) U₀:=by
  refine Qb.of (args:=[_,_]) Qxz Qd (by simp) ?_
  repeat refine⟨rfl,?_⟩
  conv=>whnf
  intro B U1 h_1 hB;have hB:Zd U1 B #[.slice h.ra h.rl h.rc,.slice h.ca h.cl h.cc]:=hB
  conv=>whnf
  intro b3 U2 h_2 hb3;have hb3:Zd U2 b3 #[.int .i64 k,.int .i64 n]:=hb3;have hB:=hB.le h_2;have hM_2:U2.M=kF++.obj cb (.cells cc.toList.toArray 48 (0,0))::rest:=(h_1.trans h_2).own.trans hM_0;have hrd:=Q7 _ hM_2
  have hsc:U2.sees (((Addr.mk cb 0 none).add (k*4)).add 3) (.slice a0 l0 c0):=by
   have:=hrd (k*4+3) (.slice a0 l0 c0) (hcell 3 (by omega));rw[Qo]at this;rw[Qo,Qo,Nat.add_assoc];exact this
  refine⟨_,hB.sees3 (o:=1) rfl,_,hb3.sees3 (o:=0) rfl,⟨cb,0,none⟩,k,⟨hca,rfl,hclk⟩,_,hsc,_,hb3.sees3 (o:=1) rfl,λ v U'=>∃b15,v=.slice (some ⟨b15,0,none⟩) 1 1/\Zd U' b15 #[.int .i64 n],λ v U1 U2⟨b15,e,hb⟩hle=>⟨b15,e,hb.le hle⟩,λ U' hle hC=>?_,λ v hv=>?_⟩
  .conv=>whnf
   intro b15 hf15;exact Zk hf15 λ U3 h_3 hb=>⟨_,.refl _,⟨b15,rfl,hb⟩,h_3⟩
  obtain⟨_,-,-,b15,rfl,-⟩:=hv
  conv=>whnf
  intro U3 h_3 hC;obtain⟨-,b15',e15,hb15⟩:=hC;cases e15;have hM_3:=h_3.own.trans hM_2;have hl0':c.af.length=l0:=by simpa using hl0
  conv=>whnf
  refine Ws (v:=.slice a0 l0 c0) (cs:=c.af.map λ n=>.int .i64 n) (new:=[.int .i64 n]) (M₀:=.obj cb (.cells cc.toList.toArray 48 (0,0))::rest) Qay rfl rfl (by rw[hM_3];exact hF _) (.inr ⟨_,rfl,hb15.reads (λ k v hv=>by simpa using hv)⟩) rfl (by simp[Value.single]) (by simp;omega) λ v' M' ha' _=>?_;have ha':Acc 3 1 v' ((c.af++[n]).map λ n=>.int .i64 n) M' (.obj cb (.cells cc.toList.toArray 48 (0,0))::rest):=by simpa using ha'
  obtain⟨ta,tc,rfl,-⟩:=Qv9 (U:={ U3 with M:=M' }) ha';refine⟨Qx2.any,(Q0m (U:={ U3 with M:=M' }) _ (c.af++[n]) _ ha' (by simp;omega)).mono ?_⟩;rintro _ U4⟨hI_4,ht4,l',hp',hs',hac'⟩-;have hl':l'=Qcz n c.af:=Zqc hsrt hp' (by rw[hp'.length_eq];exact hs');subst hl';obtain⟨F',hMF,hF'⟩:=hac'.split;have hI24:∀x o,U2.I x=some o->U4.I x=some o:=λ x o hx=>hI_4 x o (h_3.imm x o hx);have hB4:=hB.imI hI24;have hb34:=hb3.imI hI24;refine⟨_,hB4.sees3 (o:=1) rfl,_,hb34.sees3 (o:=0) rfl,⟨cb,0,none⟩,k,⟨hca,rfl,hclk⟩,rfl,?_⟩;rw[show((Addr.mk cb 0 none).add (k*4)).add 3=(Addr.mk cb 0 none).add (k*4+3) by rw[Qo,Qo,Qo,Nat.add_assoc]];refine Qbk (i:=k*4+3) (v:=.slice ta (c.af++[n]).length tc) F' hMF (by simp;rw[hcl3,<- hcap];omega) rfl λ U5 hI_5 ht_5 hM_5=>?_;refine⟨⟨_,F',hF',rfl,by rw[hM_5]⟩,λ x o hx=>?_,?_⟩
  .rw[hI_5];exact hI24 x o ((h_1.trans h_2).imm x o hx)
  .rw[ht_5];exact ht4.trans (h_3.tok.trans (h_1.trans h_2).tok)
 refine main.mono ?_;rintro v U'⟨⟨v',F',hF',hvs,hM'⟩,hI,ht⟩;have hz:U.frz.lg U'.frz:=hz0.trans ⟨hI,⟨[],rfl⟩,ht⟩;refine⟨⟨⟨X++({ c with af:=Qcz n c.af },⟨kga,kgl,kgc,v',F'⟩)::Y,[.obj cb (.cells (cc.setIfInBounds (k*4+3) v') 48 (0,0))],?_,?_,?_,?_⟩,ho.rs.lg hz λ _ _ h=>h,ho.rl,ho.rn,ho.rc⟩,hz.imm,hz.tok⟩
 .show _=(b.cs.set (k:Int).toNat { b.cas (k:Int).toNat with af:=Qcz n (b.cas (k:Int).toNat).af });rw[Int.toNat_natCast,hcas,<- hps,<- map_set (f:=λ p:Cs×Qao=>p.1) (a:=({ c with af:=Qcz n c.af },(⟨kga,kgl,kgc,v',F'⟩:Qao)))];rw[hset]
 .intro q hq;rw[mem_append,mem_cons]at hq;rcases hq with hq|rfl|hq
  .exact(hok q (by simp[hq])).lg hz
  .have:=hpk.lg hz
   exact⟨this.gs,this.gl,hF',this.nm,by
    show(Qcz n c.af).length<=_;rw[(Qi1 n c.af).length_eq];simp;omega⟩
  .exact(hok q (by simp[hq])).lg hz
 .rw[hca,hcl,hcap];refine .ofBlk ?_ hcl2 (by simp[hcl3]) λ i x hx=>?_
  .rw[Q0 Z2]at hcl1 ⊢;simpa using hcl1
  .have hlen1:(X.flatMap Qcq).length=k*4:=by rw[Q0 Z2,hX]
   rw[Array.getElem?_setIfInBounds];rw[flatMap_append,flatMap_cons]at hx;have hcc':=hcc i;rw[flatMap_append,flatMap_cons]at hcc';by_cases e:k*4+3=i
   .subst e;rw[if_pos rfl,if_pos (by rw[hcl3];omega)];rw[getElem?_append_right (by omega),hlen1,Nat.add_sub_cancel_left,getElem?_append_left (by rw[Z2];omega)]at hx;exact hx
   .rw[if_neg e];refine hcc' x ?_;by_cases h1:i<k*4
    .rw[getElem?_append_left (by omega)]at hx ⊢;exact hx
    .rw[getElem?_append_right (by omega),hlen1]at hx ⊢;by_cases h2:i-k*4<4
     .rw[getElem?_append_left (by rw[Z2];exact h2)]at hx ⊢;have:i-k*4=0\/i-k*4=1\/i-k*4=2:=by omega
      rcases this with e|e|e <;> rw[e]at hx ⊢ <;> exact hx
     .rw[getElem?_append_right (by rw[Z2];omega)]at hx ⊢;exact hx
 .rw[hM',<- hrest,flatMap_append,flatMap_cons];show Perm _ (.obj cb _::(X.flatMap (·.2.F)++(F'++Y.flatMap (·.2.F))++M₀));refine Perm.trans perm_middle (Perm.cons _ ?_);rw[<- append_assoc F'];refine Perm.append_right _ ?_;rw[<- append_assoc,<- append_assoc];exact Perm.append_right _ perm_append_comm
end Go.Proofs
