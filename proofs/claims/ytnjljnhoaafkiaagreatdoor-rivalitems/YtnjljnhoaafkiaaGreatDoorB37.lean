/- Lemmas. No conditions. -/
import Derived.Test.YtnjljnhoaafkiaaGreatDoorB36
import Derived.Test.YtnjljnhoaafkiaaGreatDoorB03
set_option linter.all false
open List
open Go.Proofs.Tryz (prog)
set_option maxRecDepth 100000
namespace Go.TM
def Bk.ords_le(b:Bk)(h:b.cs.length<=5):∀(k:Nat)(o:List Nat),(b.ords k o).length<=5^k:=by
 intro k
 induction k with
 |zero=>intro o;simp[Bk.ords]
 |succ k f=>
  intro o
  have key:∀m,(b.ordsTo k o m).length<=m*5^k:=by
   intro m
   induction m with
   |zero=>simp[Bk.ordsTo]
   |succ m w=>
    rw[b.ordsTo_succ,length_append,Nat.succ_mul]
    have:(if b.can o m then b.ords k (o++[m])else[]).length<=5^k:=by
     split
     .exact f _
     .exact Nat.zero_le _
    omega
  have h1:=key b.cs.length;have h2:b.cs.length*5^k<=5*5^k:=Nat.mul_le_mul_right _ h;rw[Nat.pow_succ,Nat.mul_comm];exact Nat.le_trans h1 h2
def Bk.all_le(b:Bk)(h:b.cs.length<=5):b.all.length<=3125:=
 Nat.le_trans (b.ords_le h _ _) (Nat.le_trans (Nat.pow_le_pow_right O1 h) D1)
def Bk.wc(b:Bk)(k i:Nat):Nat:=(b.all.take k).countP λ o=>(b.ends o).2.getD i false
def Bk.wc_succ{b:Bk}{k:Nat}{o:List Nat}(h:b.all[k]?=some o)(i:Nat):b.wc (k+1) i=b.wc k i+if(b.ends o).2.getD i false then 1 else 0:=by
 unfold Bk.wc;rw[Wf h,countP_append];simp[countP_cons]
def Bk.wc_le(b:Bk)(k i:Nat):b.wc k i<=b.all.length:=Nat.le_trans countP_le_length (by rw[length_take];omega)
def Bk.sc(b:Bk)(k:Nat):List (WP×Nat):=XA ((b.all.take k).map λ o=>six (W0 (b.ends o).1))
def Bk.sc_succ{b:Bk}{k:Nat}{o:List Nat}(h:b.all[k]?=some o):b.sc (k+1)=WD (six (W0 (b.ends o).1)) (b.sc k):=by
 unfold Bk.sc;rw[Wf h,map_append,map_singleton,Ir]
def Bk.sc_facts(b:Bk)(k:Nat):(b.sc k).length<=b.all.length/\(∀p∈b.sc k,p.2<=b.all.length)/\∀q:WP->Bool,XD q (b.sc k)=(b.all.take k).countP λ o=>q (six (W0 (b.ends o).1)):=by
 obtain⟨h1,h2,f⟩:=ju _ ((b.all.take k).map λ o=>six (W0 (b.ends o).1)) rfl;have hl:((b.all.take k).map λ o=>six (W0 (b.ends o).1)).length<=b.all.length:=S3
 exact⟨Nat.le_trans h1 hl,λ p h=>Nat.le_trans (h2 p h) hl,λ q=>by unfold Bk.sc;rw[f,countP_map];rfl⟩
def Wb(b:Bk)(k i:Nat):List Value:=(range b.cs.length).map λ j=>.int .i64 (b.wc (if j<i then k+1 else k) j:Nat)
def Gg{b:Bk}{k i j:Nat}(h:j<b.cs.length):(Wb b k i)[j]?=some (.int .i64 (b.wc (if j<i then k+1 else k) j:Nat)):=by
 unfold Wb;rw[getElem?_map,getElem?_range h];rfl
def Oy(b:Bk)(k i:Nat):(Wb b k i).length=b.cs.length:=by simp[Wb]
def xT(b:Bk)(k i:Nat)(h:i<b.cs.length):(Wb b k i).toArray.setIfInBounds i (.int .i64 (b.wc (k+1) i:Nat))=(Wb b k (i+1)).toArray:=by
 apply Array.ext';rw[Array.toList_setIfInBounds];apply ext_getElem?;intro j;rw[getElem?_set];by_cases e:i=j
 .subst e;rw[if_pos rfl,if_pos (by simpa[Wb]using h),Gg h,if_pos O1]
 .rw[if_neg e];by_cases f:j<b.cs.length
  .rw[Gg f,Gg f];have:(j<i)=(j<i+1):=propext O1;simp[this]
  .rw[getElem?_eq_none (by rw[Oy];omega),getElem?_eq_none (by rw[Oy];omega)]
def xS(b:Bk)(k:Nat):Wb b k b.cs.length=Wb b (k+1) 0:=by
 unfold Wb;refine map_congr_left λ j f=>?_;rw[if_pos (mem_range.1 f),if_neg O1]
def jH(b:Bk):Wb b 0 0=replicate b.cs.length (.int .i64 0):=by
 apply ext_getElem?;intro j;by_cases f:j<b.cs.length
 .rw[Gg f,getElem?_replicate,if_pos f,if_neg O1];simp[Bk.wc]
 .rw[getElem?_eq_none (by rw[Oy];omega),getElem?_eq_none S3]
def yy{a n:Nat}(ha:a<2^60)(h:n<60):IntKind.wrap .i64 ((BitVec.ofInt (IntKind.bits .i64) (Int.fdiv (a:Int) (2^(min ((n:Int).toNat) (IntKind.bits .i64))))&&&BitVec.ofInt (IntKind.bits .i64) 1).toNat:Int)=((if a.testBit n then 1 else 0:Nat):Int):=by
 have h1:a>>>n<2^60:=Nat.lt_of_le_of_lt (Nat.shiftRight_le a n) ha;have h2:=Uh h1 (show 1<2^60 by decide);rw[show((1:Nat):Int)=1 from rfl]at h2;have f:Int.fdiv (a:Int) (2^(min ((n:Int).toNat) (IntKind.bits .i64)))=((a>>>n:Nat):Int):=Um h;have b:=HO ha h;rw[Um h,h2]at b;rw[f];refine h2.trans ?_;congr 1;rw[Nat.and_one_is_mod]at b ⊢;have:a>>>n % 2<2:=Nat.mod_lt _ O1;cases hb:a.testBit n with
 |true=>
  rw[hb,beq_iff_eq]at b;simp only[if_true];omega
 |false=>
  rw[hb]at b;have:=ne_of_beq_false b;simp only[Bool.false_eq_true,if_false];omega
variable{T:Type}{U:Qa T}
def zU{b:Nat}{c:Array Value}{t:TypeId}{M':List Qw}{Q:Qa T->Prop}(hf:U.free b)(w:M'.Sublist U.M)(h:∀f:Qa T,(∀x o,U.I x=some o->f.I x=some o)->f.tok=U.tok->f.M=M'->Zi f b c->Q f):∃f,Qv (U.put b (.cells c t)) f/\Q f:=
 ⟨_,(Wa (b:=b) (M':=U.M) (Perm.refl _)).trans (Zx (M':=M') w),h _ (Gt (o:=.cells c t) hf).imm rfl rfl Zi.new⟩
def yG{κ:Type}[DecidableEq κ](k:κ)(z:Value)(l:List (κ×Value)):(lk k (X4 k z l)).getD z=(lk k l).getD z:=by
 unfold X4;split
 .rfl
 .rename_i h;have f:lk k l=none:=by simpa using h
  rw[f]
  have:∀(l:List (κ×Value))(i:Nat),QL k l i=none->((QL k (l++[(k,z)]) i).map (·.2))=some z:=by
   intro l
   induction l with
   |nil=>intro i _;simp[QL]
   |cons p l w=>
    intro i b;simp only[QL]at b;split at b
    .cases b
    .rename_i e;simp only[cons_append,QL,if_neg e];exact w _ b
  unfold lk at f ⊢;rw[this l 0 (by simpa using f)];rfl
end Go.TM
namespace Go.Proofs
open Go.TM
def IX:∃b,prog.info? 3=some b/\b.zero=some (.int .i64 0)/\b.size=1/\b.bytes=8:=by
 have h1:(prog.info? 3).map (·.zero)=some (some (.int .i64 0)):=K1
 have h2:(prog.info? 3).map (·.size)=some 1:=K1
 have f:(prog.info? 3).map (·.bytes)=some 8:=K1
 cases h:prog.info? 3 with
 |none=>rw[h]at h1;cases h1
 |some b=>
  rw[h]at h1 h2 f;exact⟨b,rfl,Option.some.inj h1,Option.some.inj h2,Option.some.inj f⟩
def Oj:Uo prog 119 6:=.of K1
def Pm:prog.underlying 138=some (.map 119 3):=K1
def VX{T:Type}:WG T prog 119 (λ k:WP=>.agg (XX k).toArray):=by
 obtain⟨e,w,h1,h2,b,f,-⟩:=Oj.h;exact WG.arr h1 h2 rfl b f (λ k=>rfl) (λ k=>Oq _) vW λ k=>by simp[Instr.sameBits,XX,QM]
def FC:X6 prog 45 53 1:=.of K1
def Et:List (List (Nat×St)):=[[(0,.xl 27 4),(0,.xo 28 1 7),(0,.xd 29 6 28),(2,.d 30 (.raw { dst:=none,op:=(.lookup 138 (.t 27) (.t 29) false),type:=3,pos := "", after:=#[],guard:=none })),(0,.xa 31 30),(2,.d 32 (.raw { dst:=none,op:=(.mapEntry 138 (.t 27) (.t 29)),type:=0,pos := "", after:=#[],guard:=none })),(0,.xe 33 32 1)],
 [(0,.xl 27 4),(0,.xo 28 1 7),(0,.xd 29 6 28),(2,.d 32 (.raw { dst:=none,op:=(.mapEntry 138 (.t 27) (.t 29)),type:=0,pos := "", after:=#[],guard:=none })),(0,.xe 33 32 1),(2,.d 30 (.raw { dst:=none,op:=(.lookup 138 (.t 27) (.t 29) false),type:=3,pos := "", after:=#[],guard:=none })),(0,.xa 31 30)]]
def MR:List St:=[⟨.raw { dst:=none,op:=(.entryStore 138 (.t 27) (.t 33) (.t 31)),type:=0,pos := "", after:=#[],guard:=none },none,none,none⟩]
end Go.Proofs
namespace Go.TM
variable{T:Type}{P:Program}{S:Sys P T}{U:Qa T}
def Acc.letgo{e n:Nat}{v:Value}{cs:List Value}{M A M₀:List Qw}(h:Acc e n v cs M (A++M₀)):∃M',M'.Sublist M/\Acc e n v cs M' M₀:=by
 rcases h with⟨h1,h2,f⟩|⟨b,c,len,cap,h1,h2,w,z,f,h5⟩
 .exact⟨M₀,by rw[f];exact sublist_append_right A M₀,.inl ⟨h1,h2,rfl⟩⟩
 .exact⟨_,by rw[f];exact(sublist_append_right A M₀).cons₂ _,.inr ⟨b,c,len,cap,h1,h2,w,z,rfl,h5⟩⟩
def WI.sublist{U:Qa T}{M':List Qw}(f:WI U)(h:M'.Sublist U.M):WI { U with M:=M' }:=λ r b=>f r (h.subset b)
def Qb.lists2{f:FuncId}{args:Array Value}{e e':Nat}{Q T:List Int}{rest:List Value}(h:Qb S f args (λ v U'=>∃w z A G,v=.tuple (w::z::rest).toArray/\Acc e' 1 z (T.map λ n=>.int .i64 n) U'.M G/\Acc e 1 w (Q.map λ n=>.int .i64 n) G (A++U.M)/\(∀x H,U.I x=some H->U'.I x=some H)/\U'.tok=U.tok) U) :
  Qb S f args (λ v U'=>(∃w z,v=.tuple (w::z::rest).toArray/\Jw U'.frz w Q/\Jw U'.frz z T)/\U.le U') U:=by
 have h1:Qb S f args (λ v U'=>∃w z A,v=.tuple (w::z::rest).toArray/\Jw U'.frz z T/\Acc e 1 w (Q.map λ n=>.int .i64 n) U'.M (A++U.M)/\(∀x H,U.I x=some H->U'.I x=some H)/\U'.tok=U.tok) U:=by
  refine h.sep λ v U' L⟨w,z,A,G,N,h2,h1,K,ht⟩=>?_;obtain⟨U'',P,B,a,len,cap,rfl,hl,b,F,_⟩:=h2.freeze (U:={ U' with M:=G }) L (λ _ _ h=>h) rfl;simp at hl;exact⟨U'',P,w,_,A,N,⟨a,cap,by rw[hl],KS b F⟩,by rw[show U''.M=G from B.own];exact h1,λ x o h=>B.imm x o (K x o h),B.tok.trans ht⟩
 refine h1.sep λ v U' L⟨w,z,A,N,h2,h1,K,ht⟩=>?_;obtain⟨M',E,h1⟩:=h1.letgo;obtain⟨U'',P,B,a,len,cap,rfl,hl,b,F,_⟩:=h1.freeze (U:={ U' with M:=U.M }) (U':={ U' with M:=M' }) (L.sublist E) (λ _ _ h=>h) rfl;simp at hl;have V:U'.frz.lg U''.frz:=⟨B.imm,⟨[],rfl⟩,B.tok⟩;exact⟨U'',(Zx E).trans P,⟨_,z,N,⟨a,cap,by rw[hl],KS b F⟩,h2.lg V⟩,⟨λ x o h=>B.imm x o (K x o h),B.own,B.tok.trans ht⟩⟩
def Jo(e:TypeId)(n:Nat)(v:Value)(cs:List Value)(A:List Qw):Prop:=∀M₁,Acc e n v cs (A++M₁) M₁
def Acc.split{e n:Nat}{v:Value}{cs:List Value}{M M₀:List Qw}(h:Acc e n v cs M M₀):∃A,M=A++M₀/\Jo e n v cs A:=by
 rcases h with⟨rfl,rfl,rfl⟩|⟨b,c,len,cap,rfl,h1,h2,f,rfl,w⟩
 .exact⟨[],rfl,λ _=>.inl ⟨rfl,rfl,rfl⟩⟩
 .exact⟨[_],rfl,λ _=>.inr ⟨b,c,len,cap,rfl,h1,h2,f,rfl,w⟩⟩
def Jo.nil{e n:Nat}:Jo e n (.slice none 0 0) [] []:=λ _=>.nil
def Jo.src{e n:Nat}{v:Value}{cs:List Value}{A:List Qw}(h:Jo e n v cs A):∃a l c,v=.slice a l c/\cs.length=l*n:=by
 rcases h []with⟨rfl,rfl,_⟩|⟨b,c,len,cap,rfl,h1,_⟩
 .exact⟨none,0,0,rfl,S1⟩
 .exact⟨_,_,_,rfl,h1⟩
def Qb.accs{f:FuncId}{args:Array Value}{e n:Nat}{cs:List Value}
  (h:Qb S f args (λ v U'=>(∃A Y,U'.M.Perm (Y++(A++U.M))/\Jo e n v cs A)/\(∀x o,U.I x=some o->U'.I x=some o)/\U'.tok=U.tok) U) :
  Qb S f args (λ v U'=>Acc e n v cs U'.M U.M/\(∀x o,U.I x=some o->U'.I x=some o)/\U'.tok=U.tok) U:=
 h.post λ v U'⟨⟨A,Y,w,ha⟩,b,ht⟩=>⟨_,(Wp w).trans (Zx (U:={ U' with M:=Y++(A++U.M) }) (M':=A++U.M) (sublist_append_right ..)),ha U.M,b,ht⟩
def P9{b:Nat}{o f:Obj}{M M':List Qw}(h:J0 b f o M M'):∀A:List Qw,J0 b f o (A++M) (A++M')
 |[]=>h
 |_::A=>.there (P9 h A)
def vX{s:Nat->Bool}{r:Nat}(b:r<6):ZF (QM s) (QM (H0 s r true))=s r:=by
 rw[Bool.eq_iff_iff,Iu];unfold H0;constructor
 .intro h;have:=h r b
  rwa [if_pos rfl]at this
 .intro h j _;by_cases e:j=r
  .rw[if_pos e,e,h]
  .rw[if_neg e]
def yR{κ:Type}{l:List (κ×Nat)}{i:Nat}{p:κ×Value}(h:(QG l)[i]?=some p):∃q,l[i]?=some q/\p=(q.1,.int .i64 (q.2:Nat)):=by
 unfold QG at h;rw[getElem?_map]at h;cases hx:l[i]? with
 |none=>rw[hx]at h;cases h
 |some q=>rw[hx]at h;cases h;exact⟨q,rfl,rfl⟩
def h_{κ:Type}{q:κ->Bool}{l:List (κ×Nat)}{seen:Array Nat}{i:Nat}{p:κ×Nat}(h:l[i]?=some p):Xh q l (seen.push i).toList=Xh q l seen.toList+if q p.1 then p.2 else 0:=by
 unfold Xh;rw[Array.toList_push,map_append,sum_append];simp[h]
abbrev ZE:WP->Value:=λ k=>.agg (XX k).toArray
end Go.TM
namespace Go.Proofs
open Go.TM
variable{T:Type}{S:TM.Sys prog T}{U:Qa T}
attribute [local irreducible] Qb Zm Wo
set_option maxHeartbeats 2000000 in
def DY(h:BH)(b:Bk)(hb:Zs U.frz h b)(cp:b.Ok):Qb S 31 #[h.v] (λ v U'=>(∃v1 v2,v=.tuple #[v1,v2]/\Jw U'.frz v1 b.fatesR/\Jw U'.frz v2 b.fatesC)/\U.le U') U:=by
 refine Qb.lists2 (e:=53) (e':=53) (rest:=[]) (Qb.of (args:=[_]) OM Qe S1 ?_);have dv:=hb.cs.1;have eo:=hb.rs.1;have d5:=cp.nc;have em:=cp.nr;have hN:=b.all_le d5;obtain⟨i3,ee,ef,eg,et⟩:=IX
 repeat refine⟨rfl,?_⟩
 conv=>whnf
 intro B U1 bh hB;have hB:Zi U1 B #[.slice h.ra h.rl h.rc,.slice h.ca h.cl h.cc]:=hB
 conv=>whnf
 refine P1 ZE λ mb d3=>?_
 conv=>whnf
 intro b4 c7;refine⟨_,.refl _,rfl,Zv (vs:=[.map (some mb)]) c7 rfl (by simp[Value.single]) λ U2 ch bj=>?_⟩;have W:U1.lg U2:=(Z2 mb _).trans ch.lg;refine⟨_,(hB.lg W).sees3 (o:=1) rfl,?_⟩
 conv=>whnf
 refine Ed (n:=h.cl) Pv ee ef rfl eg O1 rfl rfl O1 λ F ed=>?_
 conv=>whnf
 intro b5 c8;refine⟨_,.refl _,rfl,Zv (vs:=[.slice (some ⟨F,0,none⟩) h.cl h.cl]) c8 rfl (by simp[Value.single]) λ U3 cj bk=>?_⟩;have X:U2.lg U3:=(Z2 F _).trans cj.lg
 conv=>whnf
 intro P dx;refine⟨_,.refl _,rfl,HK (vs:=[.int .i64 0]) rfl (by simp[Value.single]) ?_⟩;have aa:=Z2 (U:=U3) P (.cells #[.int .i64 0] 3);refine⟨_,⟨rfl,(hB.lg (W.trans (X.trans aa))).rd⟩,?_⟩;refine⟨Tc.any,(E7 h b ((hb.lg bh.lg.frz2).lg (Qr.trans (W.trans (X.trans aa))))).mono ?_⟩;rintro _ U4⟨⟨B',rfl,cu⟩,az⟩-;have aj:U1.lg U4:=W.trans (X.trans (aa.trans az.lg));have bj:Zi U4 b4 #[.map (some mb)]:=bj.lg (X.trans (aa.trans az.lg));have bk:Zi U4 b5 #[.slice (some ⟨F,0,none⟩) h.cl h.cl]:=bk.lg (aa.trans az.lg)
 have dp:U4.M=.obj P (.cells #[.int .i64 ((0:Nat):Int)] 3 (0,0))::.obj F (.cells (Wb b 0 0).toArray 3 (0,0))::.obj mb (Qt ZE (QG (b.sc 0)))::U.M:=by
  rw[az.own,jH,dv];show _::U3.M=_;rw[cj.own];show _::_::U2.M=_;rw[ch.own];show _::_::_::U1.M=_;rw[bh.own];rfl
 have bz:U.frz.lg U4.frz:=bh.lg.frz2.trans aj.frz2;have d9:U4.tok=U.tok:=aj.tok.trans bh.tok;have bm:∀l N,U4.frz.lg N->Yo S 83 #[.func (.yield l) #[] #[],.pointer (some ⟨B',0,none⟩)] l b.all.length (GF b) N:=λ l N hl=>DM h b (hb.lg (bz.trans hl.frz2)) cp (cu.imI hl.imm);clear cu aa X W ed c7 c8 dx d3 ch cj az
 conv=>whnf
 let Inv:Nat->Qa T->Prop:=λ k U'=>U4.frz.lg U'/\U'.M=.obj P (.cells #[.int .i64 (k:Nat)] 3 (0,0))::.obj F (.cells (Wb b k 0).toArray 3 (0,0))::.obj mb (Qt ZE (QG (b.sc k)))::U.M
 refine IF Qe b.all.length (GF b) Inv (λ _ _=>False) (λ _=>False) rfl rfl Th.any bm ?_ ?_ ⟨Qr,dp⟩ ?_ ?_ ?_ ?_
 .rintro k p U' ⟨o,v,-,rfl,-⟩;rfl
 .rintro k U' U'' w ⟨hl,hM⟩;exact⟨SY hl w,w.own.trans hM⟩
 .rintro l A' Bd D k p U₀ KN KX KR KA hk ⟨o,v,ho,rfl,a,cap,rfl,hio,hcap,hsp⟩ ⟨hl,hM⟩ hKN hKX hKR hKA
  conv=>whnf
  intro b7 c9;refine⟨_,.refl _,rfl,Zv (vs:=QS (.slice a o.length cap) (W0 (b.ends o).1) (Jz (b.ends o).2)) c9 rfl (by simp[QS,Value.single]) λ N bi bw=>?_⟩
  conv=>whnf
  have e1:N=({ N with M:=U₀.M }:Qa T).on A' D:=by
   have:=bi.own;obtain⟨i1,m1,t1⟩:=N;simp only[Qa.on]at this ⊢;rw[this]
  rw[e1];refine hKA _ _ ?_;have bg:(({ N with M:=U₀.M }:Qa T).on Bd D).M=[Bd,D]++(.obj P (.cells #[.int .i64 (k:Nat)] 3 (0,0))::.obj F (.cells (Wb b k 0).toArray 3 (0,0))::.obj mb (Qt ZE (QG (b.sc k)))::U.M):=by show Bd::D::U₀.M=_;rw[hM];rfl
  have cf:∀x o,U₀.I x=some o->(({ N with M:=U₀.M }:Qa T).on Bd D).I x=some o:=λ x o h=>bi.imm x o h;have au:Zi (({ N with M:=U₀.M }:Qa T).on Bd D) b7 (QS (.slice a o.length cap) (W0 (b.ends o).1) (Jz (b.ends o).2)).toArray:=bw;have cq:(({ N with M:=U₀.M }:Qa T).on Bd D).tok=U₀.tok:=bi.tok;generalize(({ N with M:=U₀.M }:Qa T).on Bd D)=U6 at bg cf au cq ⊢;clear e1 bi bw c9;refine⟨_,Q9 [Bd,D] bg 0 _ rfl,I1,?_⟩;refine⟨rfl,Wd (vs:=[.int .i64 ((k:Int)+1)]) [Bd,D] bg rfl (by simp[Value.single]) λ U7 ay b8 al=>?_⟩;have bf:∀x o,U₀.I x=some o->U7.I x=some o:=λ x o h=>by rw[ay];exact cf x o h
  have au:Zi U7 b7 (QS (.slice a o.length cap) (W0 (b.ends o).1) (Jz (b.ends o).2)).toArray:=au.imI λ x o h=>by rw[ay];exact h
  have br:Zi U7 b4 #[.map (some mb)]:=bj.imI λ x o h=>bf x o (hl.imm x o h);have bs:Zi U7 b5 #[.slice (some ⟨F,0,none⟩) h.cl h.cl]:=bk.imI λ x o h=>bf x o (hl.imm x o h);have di:U7.tok=U₀.tok:=b8.trans cq;obtain⟨dd,an,-⟩:=b.sc_facts k;have dw:JD (six (W0 (b.ends o).1)) (b.sc k)<=3125:=Nat.le_trans (L4 _ _ an) hN;have dz:∀q:WP,ZE q=.agg (XX q).toArray:=λ _=>rfl;have af:Value.agg (QM (W0 (b.ends o).1)).toArray=ZE (six (W0 (b.ends o).1)):=by rw[dz,pU]
  have ao:=kO (six (W0 (b.ends o).1)) (.int .i64 0) (.int .i64 ((JD (six (W0 (b.ends o).1)) (b.sc k)+1:Nat):Int)) (QG (b.sc k));rw[Ls,<- b.sc_succ ho]at ao;have a8:Z7 ((JD (six (W0 (b.ends o).1)) (b.sc k):Nat)+1:Int):=I1
  have bd:Je U7.frz ((Addr.mk b7 0 none).add 1) (QM (W0 (b.ends o).1)):=
   ((au.imI (U':=U7.frz) λ _ _ h=>h).reads (vs:=QS (.slice a o.length cap) (W0 (b.ends o).1) (Jz (b.ends o).2)) (λ k v hv=>by simpa using hv)).sub (o:=1) (n:=6)
  have a0:Zi U7.frz b4 #[.map (some mb)]:=br.imI λ _ _ h=>h;generalize hK:six (W0 (b.ends o).1)=ky at dw af ao a8
  let F0:Qa T->Prop:=λ U'=>U7.frz.lg U'/\U'.M=U7.M
  let F1:Qa T->Prop:=λ U'=>U7.frz.lg U'/\U'.M=[Bd,D]++(.obj P (.cells #[.int .i64 ((k:Int)+1)] 3 (0,0))::.obj F (.cells (Wb b k 0).toArray 3 (0,0))::.obj mb (Qt ZE (X4 ky (.int .i64 0) (QG (b.sc k))))::U.M)
  conv=>whnf
  intro ac a6
  refine Sp (mu:=[]) (ops:=GY Tryz.f31 7) (id:=7) a6 [3,5] [[0,1,2,3,4,5,6],[0,1,2,5,6,3,4]] [7] Et MR Qe K1 K1 K1 K1 K1
   (λ f' ct U'=>ct=[]/\Xu f' [(5,.pointer (some ⟨b5,0,none⟩)),(7,.pointer (some ⟨b7,0,none⟩)),(27,.map (some mb)),(31,.int .i64 ((JD ky (b.sc k):Nat)+1:Int)),(33,.int .i64 (XU ky (QG (b.sc k)):Nat))]/\F1 U') ?_ ?_
  .intro l hl;simp only[Et,mem_cons,not_mem_nil,or_false]at hl;rcases hl with rfl|rfl
   .skip
    refine⟨_,a0.sees3 (o:=0) rfl,_,⟨rfl,bd⟩,λ v U'=>v=.int .i64 (JD ky (b.sc k):Nat)/\F0 U',λ v U1 U2 G w=>⟨G.1,G.2.1.trans w.lg,w.own.trans G.2.2⟩,λ v U' G=>G.2.1,λ U' hC=>?_,λ v hv=>?_⟩
    .have H:U'.M=U7.M:=hC.own;have E:U7.frz.lg U':=⟨hC.imm,⟨_,(append_nil _).symm⟩,hC.tok⟩
     conv=>whnf
     refine Of (k:=ky) (l:=QG (b.sc k)) VX Pm HH rfl af (.inr (by rw[H,al];simp)) ?_;rw[Yg];exact⟨_,.refl _,rfl,E,H⟩
    obtain⟨_,rfl,-⟩:=hv;refine⟨a8,λ v U'=>v=.tuple #[.int .i64 (JD ky (b.sc k):Nat),.int .i64 (XU ky (QG (b.sc k)):Nat)]/\F1 U',λ v U1 U2 G w=>⟨G.1,G.2.1.trans w.lg,w.own.trans G.2.2⟩,λ v U' G=>G.2.1,λ U' hC=>?_,λ v hv=>?_⟩
    .obtain⟨-,E,H⟩:=hC
     conv=>whnf
     refine Ee (k:=ky) (l:=QG (b.sc k)) (z:=.int .i64 0) (M':=[Bd,D]++(.obj P (.cells #[.int .i64 ((k:Int)+1)] 3 (0,0))::.obj F (.cells (Wb b k 0).toArray 3 (0,0))::.obj mb (Qt ZE (X4 ky (.int .i64 0) (QG (b.sc k))))::U.M)) VX Pm HH rfl af (by rw[H,al];exact .there (.there (.there (.there .here)))) ?_;rw[Yg];exact⟨_,.refl _,rfl,⟨E.imm,⟨_,(append_nil _).symm⟩,E.tok⟩,rfl⟩
    obtain⟨_,rfl,-⟩:=hv
    conv=>whnf
    rintro U'⟨-,G⟩;exact⟨rfl,T1,G⟩
   .skip
    refine⟨_,a0.sees3 (o:=0) rfl,_,⟨rfl,bd⟩,λ v U'=>v=.tuple #[.int .i64 (JD ky (b.sc k):Nat),.int .i64 (XU ky (QG (b.sc k)):Nat)]/\F1 U',λ v U1 U2 G w=>⟨G.1,G.2.1.trans w.lg,w.own.trans G.2.2⟩,λ v U' G=>G.2.1,λ U' hC=>?_,λ v hv=>?_⟩
    .have H:U'.M=U7.M:=hC.own;have E:U7.frz.lg U':=⟨hC.imm,⟨_,(append_nil _).symm⟩,hC.tok⟩
     conv=>whnf
     refine Ee (k:=ky) (l:=QG (b.sc k)) (z:=.int .i64 0) (M':=[Bd,D]++(.obj P (.cells #[.int .i64 ((k:Int)+1)] 3 (0,0))::.obj F (.cells (Wb b k 0).toArray 3 (0,0))::.obj mb (Qt ZE (X4 ky (.int .i64 0) (QG (b.sc k))))::U.M)) VX Pm HH rfl af (by rw[H,al];exact .there (.there (.there (.there .here)))) ?_;rw[Yg];exact⟨_,.refl _,rfl,⟨E.imm,⟨_,(append_nil _).symm⟩,E.tok⟩,rfl⟩
    obtain⟨_,rfl,-⟩:=hv;refine⟨λ v U'=>v=.int .i64 (JD ky (b.sc k):Nat)/\F1 U',λ v U1 U2 G w=>⟨G.1,G.2.1.trans w.lg,w.own.trans G.2.2⟩,λ v U' G=>G.2.1,λ U' hC=>?_,λ v hv=>?_⟩
    .obtain⟨-,E,H⟩:=hC
     conv=>whnf
     refine Of (k:=ky) (l:=X4 ky (.int .i64 0) (QG (b.sc k))) VX Pm HH rfl af (.inr (by rw[H];simp)) ?_;rw[yG,Yg];exact⟨_,.refl _,rfl,E,H⟩
    obtain⟨_,rfl,-⟩:=hv;refine⟨a8,?_⟩
    conv=>whnf
    rintro U'⟨-,G⟩;exact⟨rfl,T1,G⟩
  rintro f' ct U8⟨rfl,da,Y,bp⟩;rw[<- da.ovr];clear da;have dq:List Qw:=[Bd,D]++(.obj P (.cells #[.int .i64 ((k:Int)+1)] 3 (0,0))::.obj F (.cells (Wb b k 0).toArray 3 (0,0))::.obj mb (Qt ZE (QG (b.sc (k+1))))::U.M)
  conv=>whnf
  refine qT (n:=XU ky (QG (b.sc k))) (l:=X4 ky (.int .i64 0) (QG (b.sc k))) (v:=.int .i64 ((JD ky (b.sc k)+1:Nat):Int)) (M':=[Bd,D]++(.obj P (.cells #[.int .i64 ((k:Int)+1)] 3 (0,0))::.obj F (.cells (Wb b k 0).toArray 3 (0,0))::.obj mb (Qt ZE (QG (b.sc (k+1))))::U.M)) rfl rfl ao.2 rfl (by rw[bp,ao.1];exact .there (.there (.there (.there .here)))) ?_
  conv=>whnf
  intro a' bl;refine⟨by rw[bl.size,a6.size],_,bl.get,?_⟩;rw[bl.ds];clear bl a6;have bv:=au.imI Y.imm;have bt:=bs.imI Y.imm;have bo:∀x o,U₀.I x=some o->U8.I x=some o:=λ x o h=>Y.imm x o (bf x o h);have b9:U8.tok=U₀.tok:=Y.tok.trans di;generalize aq:({ U8 with M:=[Bd,D]++(.obj P (.cells #[.int .i64 ((k:Int)+1)] 3 (0,0))::.obj F (.cells (Wb b k 0).toArray 3 (0,0))::.obj mb (Qt ZE (QG (b.sc (k+1))))::U.M) }:Qa T)=U9;have cx:U9.M=[Bd,D]++(.obj P (.cells #[.int .i64 ((k:Int)+1)] 3 (0,0))::.obj F (.cells (Wb b k 0).toArray 3 (0,0))::.obj mb (Qt ZE (QG (b.sc (k+1))))::U.M):=by rw[<- aq]
  have cw:∀x o,U₀.I x=some o->U9.I x=some o:=by rw[<- aq];exact bo
  have c4:Zi U9 b7 (QS (.slice a o.length cap) (W0 (b.ends o).1) (Jz (b.ends o).2)).toArray:=by rw[<- aq];exact bv
  have bu:Zi U9 b5 #[.slice (some ⟨F,0,none⟩) h.cl h.cl]:=by rw[<- aq];exact bt
  have dh:U9.tok=U₀.tok:=by rw[<- aq];exact b9
  clear aq dq bp Y bv bt bo b9 a0 bd br bs au al ay bf b8 di bg cf cq F0 F1;have d2:=b.ends_len o;have ec:Jz (b.ends o).2<2^5:=SS _ O1;have dj:Jz (b.ends o).2<2^60:=Nat.lt_trans ec D1;refine⟨_,bu.sees3 (o:=0) rfl,Nat,λ i=>[(5,.pointer (some ⟨b5,0,none⟩)),(7,.pointer (some ⟨b7,0,none⟩)),(35,.int .i64 h.cl),(36,.int .i64 i)],
   λ i U'=>U9.frz.lg U'/\U'.M=[Bd,D]++(.obj P (.cells #[.int .i64 ((k:Int)+1)] 3 (0,0))::.obj F (.cells (Wb b k i).toArray 3 (0,0))::.obj mb (Qt ZE (QG (b.sc (k+1))))::U.M)/\i<=h.cl,λ i=>h.cl-i,0,T1,⟨Qr,cx,O1⟩,?_⟩
  rintro i f Ua⟨V,ab,hi⟩;have a7:Z7 ((i:Int)+1):=I1
  repeat refine⟨rfl,?_⟩
  conv=>whnf
  apply Qg<;>intro hc
  .have av:i<h.cl:=by simpa using hc
   have es:=b.wc_le k i;have ag:=Gg (b:=b) (k:=k) (i:=i) (j:=i) O1;rw[if_neg O1]at ag
   have cr:Ua.sees ((Addr.mk F 0 none).add (i*1)) (.int .i64 (b.wc k i:Nat)):=by
    rw[Nat.mul_one];exact Q9 [Bd,D,_] ab i _ ag
   have ck:=yy dj (show i<60 by omega);rw[PH]at ck
   have db:Z7 ((b.wc k i:Nat)+IntKind.wrap .i64 ((BitVec.ofInt (IntKind.bits .i64) (Int.fdiv (Jz (b.ends o).2:Int) (2^(min ((i:Int).toNat) (IntKind.bits .i64))))&&&BitVec.ofInt (IntKind.bits .i64) 1).toNat:Int)):=by
    rw[ck];unfold Z7;split <;> omega
   have e2:((b.wc k i:Nat):Int)+IntKind.wrap .i64 ((BitVec.ofInt (IntKind.bits .i64) (Int.fdiv (Jz (b.ends o).2:Int) (2^(min ((i:Int).toNat) (IntKind.bits .i64))))&&&BitVec.ofInt (IntKind.bits .i64) 1).toNat:Int)=((b.wc (k+1) i:Nat):Int):=by
    rw[ck,b.wc_succ ho i];simp
   refine⟨_,(bu.imI V.imm).sees3 (o:=0) rfl,⟨F,0,none⟩,i,⟨rfl,rfl,av⟩,_,cr,_,(c4.imI V.imm).sees3 (o:=7) rfl,O1,rfl,?_⟩
   conv=>whnf
   intro Ub L _;have Q:=L.own.trans ab;refine⟨db,?_⟩;rw[e2];refine⟨⟨F,0,none⟩,i,⟨rfl,rfl,av⟩,rfl,?_⟩;rw[Nat.mul_one];refine WM (i:=i) (v:=.int .i64 (b.wc (k+1) i:Nat)) [Bd,D,_] Q (by simp[Wb];omega) rfl λ Uc dl ea ap=>?_;rw[xT b k i O1]at ap;have d1:U9.frz.lg Uc:=⟨λ x o h=>by rw[dl];exact L.imm x o (V.imm x o h),⟨_,(append_nil _).symm⟩,ea.trans (L.tok.trans V.tok)⟩;refine⟨a7,?_⟩
   conv=>whnf
   exact⟨rfl,i+1,T1,⟨d1,ap,O1⟩,L1⟩
  .have hge:i=b.cs.length:=by simp at hc;omega
   subst hge;rw[xS]at ab
   have e3:Ua=({ Ua with M:=.obj P (.cells #[.int .i64 ((k:Int)+1)] 3 (0,0))::.obj F (.cells (Wb b (k+1) 0).toArray 3 (0,0))::.obj mb (Qt ZE (QG (b.sc (k+1))))::U.M }:Qa T).on Bd D:=by
    obtain⟨i1,m1,t1⟩:=Ua;simp only[Qa.on]at ab ⊢;rw[ab];rfl
   have dc:U₀.frz.lg ({ Ua with M:=.obj P (.cells #[.int .i64 ((k:Int)+1)] 3 (0,0))::.obj F (.cells (Wb b (k+1) 0).toArray 3 (0,0))::.obj mb (Qt ZE (QG (b.sc (k+1))))::U.M }:Qa T):=⟨λ x o h=>V.imm x o (cw x o h),⟨_,(append_nil _).symm⟩,V.tok.trans dh⟩;have d0:=hl.frz2.trans dc
   conv=>whnf
   rw[e3];exact hKN _ _ _ dc ⟨d0,rfl⟩
 .rintro d l OA U3' ⟨hl,hM⟩;have cg:(U3'.on (.obj l OA) (.obj d (.deferred (some [])))).M=[.obj l OA,.obj d (.deferred (some []))]++(.obj P (.cells #[.int .i64 (b.all.length:Nat)] 3 (0,0))::.obj F (.cells (Wb b b.all.length 0).toArray 3 (0,0))::.obj mb (Qt ZE (QG (b.sc b.all.length)))::U.M):=by show _::_::U3'.M=_;rw[hM];rfl
  have ax:∀x o,U4.I x=some o->(U3'.on (.obj l OA) (.obj d (.deferred (some [])))).I x=some o:=hl.imm;have df:(U3'.on (.obj l OA) (.obj d (.deferred (some [])))).tok=U4.tok:=hl.tok;generalize(U3'.on (.obj l OA) (.obj d (.deferred (some []))))=N at cg ax df ⊢;have dk:Zi N B #[.slice h.ra h.rl h.rc,.slice h.ca h.cl h.cc]:=hB.imI λ x o h=>ax x o (aj.imm x o h);have c2:Zi N b4 #[.map (some mb)]:=bj.imI ax;have c3:Zi N b5 #[.slice (some ⟨F,0,none⟩) h.cl h.cl]:=bk.imI ax;have cv:∀x o,U.I x=some o->N.I x=some o:=λ x o h=>ax x o (bz.imm x o h);have dg:N.tok=U.tok:=df.trans d9;obtain⟨dd,an,b3⟩:=b.sc_facts b.all.length;rw[take_length]at b3;generalize aw:[.obj l OA,.obj d (.deferred (some []))]++(.obj P (.cells #[.int .i64 (b.all.length:Nat)] 3 (0,0))::.obj F (.cells (Wb b b.all.length 0).toArray 3 (0,0))::.obj mb (Qt ZE (QG (b.sc b.all.length)))::U.M)=Ba at cg;have bb:Qw.obj mb (Qt ZE (QG (b.sc b.all.length)))∈Ba:=by rw[<- aw];simp
  clear hl hM bm Inv;refine⟨_,dk.sees3 (o:=0) rfl,Nat×Value,λ y=>[(2,y.2),(3,.slice none 0 0),(4,.pointer (some ⟨b4,0,none⟩)),(5,.pointer (some ⟨b5,0,none⟩)),(6,.pointer (some ⟨P,0,none⟩)),(54,.int .i64 h.rl),(55,.int .i64 y.1)],
   λ y U'=>N.frz.lg U'/\(∃A,U'.M=A++Ba/\Jo 53 1 y.2 (((range y.1).map b.fatR).map λ n=>.int .i64 n) A)/\y.1<=h.rl,λ y=>h.rl-y.1,(0,.slice none 0 0),T1,⟨Qr,⟨[],cg,.nil⟩,O1⟩,?_⟩
  rintro⟨r,v⟩f Ua⟨V,⟨A,ab,Z⟩,hr⟩;simp only at Z hr;obtain⟨sa,sl,sc,rfl,ep⟩:=Z.src;have a7:Z7 ((r:Int)+1):=I1
  repeat refine⟨rfl,?_⟩
  conv=>whnf
  apply Qg<;>intro hc
  .have hrt:r<h.rl:=by simpa using hc
   have ak:r<6:=O1
   refine⟨_,(c2.imI V.imm).sees3 (o:=0) rfl,?_⟩
   conv=>whnf
   refine OH (enc:=ZE) (l:=QG (b.sc b.all.length)) Pm rfl (.inr (by rw[ab];exact mem_append_right _ bb)) λ it ei=>?_
   refine⟨Array Nat,λ seen=>[(2,.slice sa sl sc),(3,.slice none 0 0),(4,.pointer (some ⟨b4,0,none⟩)),(5,.pointer (some ⟨b5,0,none⟩)),(6,.pointer (some ⟨P,0,none⟩)),(9,.int .i64 r),(10,.int .i64 (Xh (λ k:WP=>W0 k.1 r) (b.sc b.all.length) seen.toList:Nat)),(54,.int .i64 h.rl),(55,.int .i64 r),(59,.pointer (some ⟨it,0,none⟩))],
    λ seen U'=>N.frz.lg U'/\U'.M=.obj it (Jx mb (QG (b.sc b.all.length)).length seen)::(A++Ba)/\seen.toList.Nodup/\∀i∈seen.toList,i<(b.sc b.all.length).length,λ seen=>(b.sc b.all.length).length-seen.size,#[],T1,⟨V.trans (Z2 _ _),by show _::Ua.M=_;rw[ab],S1,S1⟩,?_⟩
   rintro seen f Ub⟨L,Q,co,av⟩
   have d8:seen.size<=(b.sc b.all.length).length:=by
    have:=XM co av;simpa using this
   have ej:=Lg (q:=λ k:WP=>W0 k.1 r) an seen.toList;have d4:seen.toList.length*b.all.length<=3125*3125:=Nat.mul_le_mul (by rw[Array.length_toList];omega) hN
   conv=>whnf
   refine Ss (enc:=ZE) (l:=QG (b.sc b.all.length)) (λ o=>.obj it o::(A++Ba)) rfl (.inr (by rw[Q];exact mem_cons_of_mem _ (mem_append_right _ bb))) (λ o=>by rw[Q];exact .here) (λ c1=>?_) (λ i p hp d6=>?_)
   .have hfin:Xh (λ k:WP=>W0 k.1 r) (b.sc b.all.length) seen.toList=b.all.countP λ o=>(b.ends o).1.getD r false:=by
     rw[vL co av (λ i hi=>by have:=c1 i (by rw[kK];exact hi);simpa using this),b3];congr 1;funext o;exact LN _ ak
    have be:H1 (Xh (λ k:WP=>W0 k.1 r) (b.sc b.all.length) seen.toList) b.all.length=b.fatR r:=by rw[hfin];rfl
    have du:=Q9 (U:=Ub) (b:=P) (e:=3) (vs:=[.int .i64 (b.all.length:Nat)]) (.obj it (Jx mb (QG (b.sc b.all.length)).length seen)::(A++[.obj l OA,.obj d (.deferred (some []))])) (by rw[Q,<- aw];simp;rfl)
    repeat refine⟨rfl,?_⟩
    refine⟨_,du 0 _ rfl,Te.any,(Ev _ _).go λ _=>?_⟩;rw[be]
    conv=>whnf
    intro bn cm;refine zU (M':=A++Ba) cm (by rw[Q];exact sublist_cons_self ..) λ Ud dm eb dr ai=>?_;have ai:Zi Ud bn #[.int .i64 (b.fatR r)]:=ai;have a9:N.frz.lg Ud:=⟨λ x o h=>dm x o (L.imm x o h),⟨_,(append_nil _).symm⟩,eb.trans L.tok⟩
    conv=>whnf
    refine Wn (v:=.slice sa sl sc) (cs:=((range r).map b.fatR).map λ n=>.int .i64 n) (new:=[.int .i64 (b.fatR r)]) (M₀:=Ba) FC rfl rfl (by rw[dr];exact Z _) (.inr ⟨_,rfl,ai.rd⟩) rfl (by simp[Value.single]) S3 λ v' M' ah _=>?_;have ah:Acc 53 1 v' (((range (r+1)).map b.fatR).map λ n=>.int .i64 n) M' Ba:=by rw[range_succ];simpa using ah
    obtain⟨ce,H,ae⟩:=ah.split;obtain⟨ta,tl,tc,rfl,-⟩:=ae.src;refine⟨a7,?_⟩
    conv=>whnf
    exact⟨rfl,(r+1,.slice ta tl tc),T1,⟨⟨a9.imm,⟨_,(append_nil _).symm⟩,a9.tok⟩,⟨ce,H,ae⟩,by show r+1<=h.rl;omega⟩,L1⟩
   .obtain⟨q,hq,rfl⟩:=yR hp;have en:q.2<=3125:=Nat.le_trans (an q (mem_of_getElem? hq)) hN;have dy:=(List.getElem?_eq_some_iff.1 hq).1;have ad:=h_ (q:=λ k:WP=>W0 k.1 r) (seen:=seen) hq
    have bc:(seen.push i).toList.Nodup:=by
     rw[Array.toList_push,nodup_append];refine⟨co,S1,λ x hx y hy=>?_⟩;rw[mem_singleton.1 hy];rintro rfl;exact d6 (by simpa using hx)
    have ba:∀j∈(seen.push i).toList,j<(b.sc b.all.length).length:=by
     intro j hj;rw[Array.toList_push,mem_append]at hj;rcases hj with hj|hj
     .exact av j hj
     .rw[mem_singleton.1 hj];exact dy
    have bx:(b.sc b.all.length).length-(seen.push i).size<(b.sc b.all.length).length-seen.size:=by
     have:=XM bc ba;rw[Array.length_toList,Array.size_push]at this;rw[Array.size_push];omega
    have b0:N.frz.lg ({ Ub with M:=.obj it (Jx mb (QG (b.sc b.all.length)).length (seen.push i))::(A++Ba) }:Qa T):=⟨L.imm,⟨_,(append_nil _).symm⟩,L.tok⟩;generalize cz:({ Ub with M:=.obj it (Jx mb (QG (b.sc b.all.length)).length (seen.push i))::(A++Ba) }:Qa T)=Uc at b0 ⊢;have ap:Uc.M=.obj it (Jx mb (QG (b.sc b.all.length)).length (seen.push i))::(A++Ba):=by rw[<- cz]
    clear cz
    repeat refine⟨rfl,?_⟩
    conv=>whnf
    refine OG (enc:=ZE) (l:=QG (b.sc b.all.length)) rfl (.inr (by rw[ap];exact mem_cons_of_mem _ (mem_append_right _ bb))) (.inr (by rw[ap];exact mem_cons_self ..)) hp ?_
    conv=>whnf
    intro ek c5;refine⟨_,.refl _,rfl,Zv (vs:=QM (W0 q.1.1)) c5 rfl (YV _) λ Ud dt am=>?_⟩;refine⟨_,⟨rfl,am.rd⟩,?_⟩
    conv=>whnf
    intro el c6;refine⟨_,.refl _,rfl,HK (vs:=QM (W0 q.1.1)) rfl (YV _) ?_⟩;refine⟨r,⟨rfl,ak⟩,rfl,?_⟩;rw[Nat.mul_one];refine kJ (c:=(QM (W0 q.1.1)).toArray) (v:=.bool true) c6 ak rfl λ Ue c0 bq=>?_;rw[Dj _ ak]at bq;have am:=am.le c0;have b2:=dt.trans c0;refine⟨_,⟨rfl,am.rd⟩,?_⟩;refine⟨_,⟨rfl,bq.rd⟩,?_⟩
    conv=>whnf
    obtain⟨eT,eh,a1,a2,a3,a4,a5⟩:=Oj.h;refine yb a1 a2 rfl a3 a4 a5 (vs:=QM (W0 q.1.1)) (ws:=QM (H0 (W0 q.1.1) r true)) rfl rfl rfl rfl (Oq _) (Oq _) ?_;rw[vX ak];have cy:=b2.own.trans ap;have b1:N.frz.lg Ue:=b0.trans b2.lg;cases de:W0 q.1.1 r with
    |true=>
     rw[if_pos de]at ad;refine⟨I1,?_⟩
     conv=>whnf
     exact⟨rfl,seen.push i,⟨rfl,rfl,rfl,rfl,rfl,rfl,by rw[ad];rfl,rfl,rfl,rfl,trivial⟩,⟨b1,cy,bc,ba⟩,bx⟩
    |false=>
     rw[if_neg (by rw[de];simp),Nat.add_zero]at ad
     conv=>whnf
     exact⟨rfl,seen.push i,⟨rfl,rfl,rfl,rfl,rfl,rfl,by rw[ad];rfl,rfl,rfl,rfl,trivial⟩,⟨b1,cy,bc,ba⟩,bx⟩
  .have hge:r=b.rs.length:=by simp at hc;omega
   subst hge;have Z:Jo 53 1 (.slice sa sl sc) (b.fatesR.map λ n=>.int .i64 n) A:=Z;refine⟨_,(c3.imI V.imm).sees3 (o:=0) rfl,Nat×Value,λ y=>[(2,.slice sa sl sc),(3,y.2),(6,.pointer (some ⟨P,0,none⟩)),(81,.slice (some ⟨F,0,none⟩) h.cl h.cl),(82,.int .i64 h.cl),(83,.int .i64 y.1)],
    λ y U'=>N.frz.lg U'/\(∃A2,U'.M=A2++(A++Ba)/\Jo 53 1 y.2 (((range y.1).map b.fatC).map λ n=>.int .i64 n) A2)/\y.1<=h.cl,λ y=>h.cl-y.1,(0,.slice none 0 0),T1,⟨V,⟨[],ab,.nil⟩,O1⟩,?_⟩
   rintro⟨i,v⟩f Ub⟨L,⟨A2,Q,K⟩,hi⟩;simp only at K hi;obtain⟨ua,ul,uc,rfl,er⟩:=K.src;have a7:Z7 ((i:Int)+1):=I1
   repeat refine⟨rfl,?_⟩
   conv=>whnf
   apply Qg<;>intro hc
   .have bm:i<h.cl:=by simpa using hc
    have d7:=Q9 (U:=Ub) (b:=F) (e:=3) (vs:=Wb b b.all.length 0) (A2++A++[.obj l OA,.obj d (.deferred (some [])),.obj P (.cells #[.int .i64 (b.all.length:Nat)] 3 (0,0))]) (by rw[Q,<- aw];simp;rfl);have ak:=Q9 (U:=Ub) (b:=P) (e:=3) (vs:=[.int .i64 (b.all.length:Nat)]) (A2++A++[.obj l OA,.obj d (.deferred (some []))]) (by rw[Q,<- aw];simp;rfl);have ag:=Gg (b:=b) (k:=b.all.length) (i:=0) (j:=i) O1;rw[if_neg O1]at ag
    have cr:Ub.sees ((Addr.mk F 0 none).add (i*1)) (.int .i64 (b.wc b.all.length i:Nat)):=by
     rw[Nat.mul_one];exact d7 i _ ag
    have be:H1 (b.wc b.all.length i) b.all.length=b.fatC i:=by unfold Bk.wc;rw[take_length];rfl
    refine⟨⟨F,0,none⟩,i,⟨rfl,rfl,bm⟩,_,cr,_,ak 0 _ rfl,Te.any,(Ev _ _).go λ _=>?_⟩;rw[be]
    conv=>whnf
    intro bn cm;refine Zh cm λ Ud hd ai=>?_;have ai:Zi Ud bn #[.int .i64 (b.fatC i)]:=ai;have a9:=L.trans hd.lg
    conv=>whnf
    refine Wn (v:=.slice ua ul uc) (cs:=((range i).map b.fatC).map λ n=>.int .i64 n) (new:=[.int .i64 (b.fatC i)]) (M₀:=A++Ba) FC rfl rfl (by rw[hd.own,Q];exact K _) (.inr ⟨_,rfl,ai.rd⟩) rfl (by simp[Value.single]) S3 λ v' M' ah _=>?_;have ah:Acc 53 1 v' (((range (i+1)).map b.fatC).map λ n=>.int .i64 n) M' (A++Ba):=by rw[range_succ];simpa using ah
    obtain⟨ce,H,ae⟩:=ah.split;obtain⟨ta,tl,tc,rfl,-⟩:=ae.src;refine⟨a7,?_⟩
    conv=>whnf
    exact⟨rfl,(i+1,.slice ta tl tc),T1,⟨⟨a9.imm,⟨_,(append_nil _).symm⟩,a9.tok⟩,⟨ce,H,ae⟩,by show i+1<=h.cl;omega⟩,L1⟩
   .have hge:i=b.cs.length:=by simp at hc;omega
    subst hge;have K:Jo 53 1 (.slice ua ul uc) (b.fatesC.map λ n=>.int .i64 n) A2:=K;subst aw;refine⟨A2++(A++([.obj l OA,.obj d (.deferred none),.obj P (.cells #[.int .i64 (b.all.length:Nat)] 3 (0,0)),.obj F (.cells (Wb b b.all.length 0).toArray 3 (0,0)),.obj mb (Qt ZE (QG (b.sc b.all.length)))]++U.M)),by rw[Q];exact P9 (P9 (.there .here) _) _,?_⟩
    conv=>whnf
    exact⟨_,_,_,_,rfl,K _,Z _,λ x o hx=>L.imm x o (cv x o hx),L.tok.trans dg⟩
 .exact λ _ _ _ _ _ h=>h.elim
 .exact λ _ _ _ _ h=>h.elim
end Go.Proofs
namespace Go.TM
variable{T:Type}{P:Program}{S:Sys P T}{U:Qa T}
def Jw.nil:Jw U (.slice none 0 0) []:=⟨none,0,rfl,rfl,λ i x h=>by simp at h⟩
def BH.zero:BH:=⟨none,0,0,none,0,0⟩
def Bk.askF(b:Bk)(r:Int):Int:=if b.flaw Zk=0 then(if QP r 0 (b.nr-1)then 0 else 6)else b.flaw Zk
def Bk.askF_ok{b:Bk}{r:Int}(h:b.askF r=0):b.Ok/\0<=r/\r<b.nr:=by
 unfold Bk.askF at h;split at h
 .rename_i h1;split at h
  .rename_i h2;simp only[QP,Bool.and_eq_true,decide_eq_true_eq]at h2;exact⟨Bk.ok_of h1,O1,O1⟩
  .cases h
 .rename_i h1;exact absurd h h1
end Go.TM
namespace Go.Proofs
open Go.TM
variable{T:Type}{S:TM.Sys prog T}{U:Qa T}
attribute [local irreducible] Qb Zm Wo
def qV(h:BH)(b:Bk)(hb:Zs U.frz h b)(T:JY U):Qb S 10 #[h.v] (λ v U'=>(∃w z,v=.tuple #[w,z,.int .i64 (b.flaw Zk)]/\Jw U'.frz w (if b.flaw Zk=0 then b.fatesR else[])/\Jw U'.frz z (if b.flaw Zk=0 then b.fatesC else[]))/\U.le U') U:=by
 refine Qb.grown (R:=λ v U'=>∃w z,v=.tuple #[w,z,.int .i64 (b.flaw Zk)]/\Jw U' w (if b.flaw Zk=0 then b.fatesR else[])/\Jw U' z (if b.flaw Zk=0 then b.fatesC else[])) (λ v I L hl⟨w,z,e,h1,h2⟩=>⟨w,z,e,h1.lg hl,h2.lg hl⟩) (Qb.of (args:=[_]) UJ Qe S1 ?_)
 repeat refine⟨rfl,?_⟩
 conv=>whnf
 intro B I f E;have E:Zi I B #[.slice h.ra h.rl h.rc,.slice h.ca h.cl h.cc]:=E;refine⟨_,⟨rfl,E.rd⟩,?_⟩;refine⟨Ke.any,(YD h b ((hb.lg f.lg.frz2).lg Qr) (T.lg f.lg)).go λ _=>?_⟩
 repeat refine⟨rfl,?_⟩
 conv=>whnf
 apply Qg<;>intro K
 .have hf:b.flaw Zk≠0:=by simpa using K
  repeat refine⟨rfl,?_⟩
  conv=>whnf
  rw[if_neg hf,if_neg hf];exact⟨⟨_,_,rfl,.nil,.nil⟩,f.lg⟩
 have hf:b.flaw Zk=0:=by simpa using K
 rw[if_pos hf,if_pos hf,hf];refine⟨_,⟨rfl,E.rd⟩,?_⟩;refine⟨OM.any,(DY h b (hb.lg f.lg.frz2) (Bk.ok_of hf)).mono ?_⟩;rintro _ L⟨⟨w,z,rfl,G,H⟩,F⟩-;obtain⟨M,P,rfl,h1⟩:=G;obtain⟨N,Q,rfl,h2⟩:=H
 repeat refine⟨rfl,?_⟩
 conv=>whnf
 exact⟨⟨_,_,rfl,⟨M,P,rfl,h1⟩,⟨N,Q,rfl,h2⟩⟩,(f.trans F).lg⟩
def Vb(h:BH)(b:Bk)(hb:Zs U.frz h b)(T:JY U)(r:Int):Qb S 42 #[h.v,.int .i64 r] (λ v U'=>v=.tuple #[(if b.askF r=0 then h else BH.zero).v,.int .i64 (b.askF r)]/\U'=U) U:=by
 refine Qb.pure' (Qb.of (args:=[_,_]) PA Qe S1 ?_);have K:=hb.rs.1;have N:=hb.rl;have I:b.nr=(h.rl:Int):=by unfold Bk.nr;rw[K]
 repeat refine⟨rfl,?_⟩
 conv=>whnf
 intro B P f H;have H:Zi P B #[.slice h.ra h.rl h.rc,.slice h.ca h.cl h.cc]:=H
 conv=>whnf
 intro G F;refine⟨_,.refl _,?_⟩;have E:=H.lg (Z2 G (.cells #[.slice none 0 0,.slice none 0 0] 92));refine⟨_,⟨rfl,E.rd⟩,?_⟩;refine⟨Ke.any,(YD h b (((hb.lg f.lg.frz2).lg Qr).lg (Z2 G _)) ((T.lg f.lg).lg (Z2 G _))).go λ _=>?_⟩
 repeat refine⟨rfl,?_⟩
 conv=>whnf
 apply Qg<;>intro M
 .have hf:b.flaw Zk≠0:=by simpa using M
  have ha:b.askF r=b.flaw Zk:=by unfold Bk.askF;rw[if_neg hf]
  rw[ha,if_neg hf];refine⟨rfl,Zv (vs:=[.slice none 0 0,.slice none 0 0]) F rfl (by simp[Value.single]) λ L w z=>?_⟩;refine⟨_,⟨rfl,z.rd⟩,?_⟩
  conv=>whnf
  exact⟨rfl,(f.trans w).lg⟩
 have hf:b.flaw Zk=0:=by simpa using M
 have ha:b.askF r=if QP r 0 ((h.rl:Int)-1)then 0 else 6:=by unfold Bk.askF;rw[if_pos hf,I]
 rw[ha];refine⟨_,E.sees3 (o:=0) rfl,I1,?_⟩;refine⟨Gd.any,(Wq _ _ _ _).go λ _=>?_⟩;cases Q:QP r 0 ((h.rl:Int)-1)with
 |false=>
  refine⟨rfl,Zv (vs:=[.slice none 0 0,.slice none 0 0]) F rfl (by simp[Value.single]) λ L w z=>?_⟩;refine⟨_,⟨rfl,z.rd⟩,?_⟩
  conv=>whnf
  exact⟨rfl,(f.trans w).lg⟩
 |true=>
  refine⟨_,⟨rfl,E.rd⟩,?_⟩;refine⟨rfl,Zv (vs:=[.slice h.ra h.rl h.rc,.slice h.ca h.cl h.cc]) F rfl (by simp[Value.single]) λ L w z=>?_⟩;refine⟨_,⟨rfl,z.rd⟩,?_⟩
  conv=>whnf
  exact⟨rfl,(f.trans w).lg⟩
def Vd(h:BH)(b:Bk)(hb:Zs U.frz h b)(E:b.Ok)(r:Nat)(M:r<b.rs.length):Qb S 48 #[h.v,.int .i64 r] (λ v U'=>v=.int .i64 (b.fatR r)/\U'=U) U:=by
 refine Qb.pure' (Qb.of (args:=[_,_]) Gc Qe S1 ?_)
 repeat refine⟨rfl,?_⟩
 conv=>whnf
 intro B K f w;have w:Zi K B #[.slice h.ra h.rl h.rc,.slice h.ca h.cl h.cc]:=w;refine⟨_,⟨rfl,w.rd⟩,?_⟩;refine⟨OM.any,(DY h b (hb.lg f.lg.frz2) E).mono ?_⟩;rintro _ P⟨⟨X,Y,rfl,F,G⟩,z⟩-;obtain⟨Q,V,rfl,h1⟩:=F;obtain⟨T,W,rfl,h2⟩:=G;have I:b.fatesR.length=b.rs.length:=by simp[Bk.fatesR]
 obtain⟨L,x,hx,rfl,-,N⟩:=h1.at (show r<b.fatesR.length by omega)
 have H:x=b.fatR r:=by
  unfold Bk.fatesR at hx;rw[getElem?_map,getElem?_range M]at hx;exact(Option.some.inj hx).symm
 subst H
 repeat refine⟨rfl,?_⟩
 refine⟨L,r,⟨rfl,rfl,O1⟩,_,N.lg Qr,?_⟩
 repeat refine⟨rfl,?_⟩
 conv=>whnf
 exact(f.trans z).lg
end Go.Proofs
namespace Go.TM
variable{T:Type}{P:Program}{S:Sys P T}{U:Qa T}
def WL(U:Qa T)(v:Value)(l:List Bool):Prop:=∃a cap,v=.slice a l.length cap/\∀(i:Nat)x,l[i]?=some x->∃b,a=some b/\b.spot=none/\U.sees (b.add (i*1)) (.bool x)
def WL.lg{U':Qa T}{v:Value}{l:List Bool}(h:WL U v l)(k:U.lg U'):WL U' v l:=let ⟨a,c,e,h⟩:=h;⟨a,c,e,λ i x hx=>let ⟨ad,e',s,r⟩:=h i x hx;⟨ad,e',s,r.lg k⟩⟩
def WL.nil:WL U (.slice none 0 0) []:=⟨none,0,rfl,λ i x h=>by simp at h⟩
def wX{a:Option Addr}{l:List Bool}{cap:Nat}(h:Src U a (l.map .bool))(f:∀b,a=some b->b.spot=none):WL U (.slice a l.length cap) l:=by
 refine⟨a,cap,rfl,λ i x hx=>?_⟩;rcases h with⟨_,w⟩|⟨b,rfl,z⟩
 .rw[map_eq_nil_iff]at w;subst w;simp at hx
 .exact⟨b,rfl,f b rfl,by rw[Nat.mul_one];exact z i _ (by simp[hx])⟩
def Zi.bools{b:Nat}{c:Array Value}{l:List Bool}{cap:Nat}(h:Zi U b c)(f:∀(i:Nat)(x:Bool),l[i]?=some x->c[i]?=some (.bool x)):WL U (.slice (some ⟨b,0,none⟩) l.length cap) l:=
 ⟨_,_,rfl,λ i x hx=>⟨_,rfl,rfl,by rw[Nat.mul_one,Qo];exact h.sees (by rw[Nat.zero_add];exact f i x hx)⟩⟩
def Bk.ordL_cons(b:Bk)(o:List Nat)(i:Int)(l:List Int):b.ordL o (i::l)=if QP i 0 (b.nc-1)then(if i.toNat∈o then 5 else if(Jf b.A i.toNat).all (λ k=>o.contains k)then b.ordL (o++[i.toNat]) l else 7)else 6:=rfl
def Bk.outF(b:Bk)(l:List Int):Int:=if b.flaw Zk=0 then b.ordF l else b.flaw Zk
def jG(w:List Bool):((range w.length).map λ k=>Value.bool ((Jz w).testBit k))=w.map .bool:=by
 apply ext_getElem?;intro i;rw[getElem?_map,getElem?_map];by_cases h:i<w.length
 .rw[getElem?_range h,getElem?_eq_getElem h];simp[PH,getD_eq_getElem?_getD,getElem?_eq_getElem h]
 .rw[getElem?_eq_none S3,getElem?_eq_none O1];rfl
def Qb.lists2g{f:FuncId}{args:Array Value}{e:Nat}{cs:List Value}{R:Value->Qa T->Prop}{rest:List Value}(P:∀v G H,G.lg H->R v G->R v H)
  (h:Qb S f args (λ v U'=>∃w F A,v=.tuple (w::F::rest).toArray/\R w U'.frz/\Acc e 1 F cs U'.M (A++U.M)/\(∀x L,U.I x=some L->U'.I x=some L)/\U'.tok=U.tok) U) :
  Qb S f args (λ v U'=>(∃w a len cap,v=.tuple (w::.slice a len cap::rest).toArray/\R w U'.frz/\cs.length=len/\Src U'.frz a cs/\∀K,a=some K->K.spot=none)/\U.le U') U:=by
 refine h.sep λ v U' Q⟨w,F,A,V,h1,h2,N,ht⟩=>?_;obtain⟨M',b,h2⟩:=h2.letgo;obtain⟨U'',X,B,a,len,cap,rfl,hl,z,E,_⟩:=h2.freeze (U:={ U' with M:=U.M }) (U':={ U' with M:=M' }) (Q.sublist b) (λ _ _ h=>h) rfl;have W:U'.frz.lg U''.frz:=⟨B.imm,⟨[],rfl⟩,B.tok⟩;exact⟨U'',(Zx b).trans X,⟨w,a,len,cap,V,P _ _ _ W h1,O1,z,E⟩,⟨λ x o h=>B.imm x o (N x o h),B.own,B.tok.trans ht⟩⟩
end Go.TM
namespace Go.Proofs
open Go.TM
variable{T:Type}{S:TM.Sys prog T}{U:Qa T}
attribute [local irreducible] Qb Zm Wo
set_option maxHeartbeats 1000000 in
def DH(h:BH)(b:Bk)(hb:Zs U.frz h b)(hk:JY U)(a:Option Addr)(len cap:Nat)(l:List Int)(hl:Z6 U.frz a len l)(cw:len<2^60) :
  Qb S 19 #[h.v,.slice a len cap] (λ v U'=>(∃v1 v2,v=.tuple #[v1,v2,.int .i64 (b.outF l)]/\WL U'.frz v1 (if b.outF l=0 then(b.ends (l.map Int.toNat)).1 else[])/\WL U'.frz v2 (if b.outF l=0 then(b.ends (l.map Int.toNat)).2 else[]))/\U.le U') U:=by
 refine(Qb.lists2g (e:=4) (cs:=(if b.outF l=0 then(b.ends (l.map Int.toNat)).2 else[]).map .bool) (R:=λ v U'=>WL U' v (if b.outF l=0 then(b.ends (l.map Int.toNat)).1 else[])) (rest:=[.int .i64 (b.outF l)]) (λ v U1 U2 hl h=>h.lg hl) (Qb.of (args:=[_,_]) O_ Qe S1 ?_)).post λ v U'⟨⟨v1,a,len,cap,e,h1,h2,h3,h4⟩,H⟩=>⟨U',.refl _,⟨v1,_,e,h1,by rw[length_map]at h2;rw[<- h2];exact wX h3 h4⟩,H⟩;have cf:=hb.cs.1;have c2:=hb.rs.1;have c0:=hl.1
 repeat refine⟨rfl,?_⟩
 conv=>whnf
 intro B U1 K hB;have hB:Zi U1 B #[.slice h.ra h.rl h.rc,.slice h.ca h.cl h.cc]:=hB;refine⟨_,⟨rfl,hB.rd⟩,?_⟩;refine⟨Ke.any,(YD h b ((hb.lg K.lg.frz2).lg Qr) (hk.lg K.lg)).go λ _=>?_⟩
 repeat refine⟨rfl,?_⟩
 conv=>whnf
 apply Qg<;>intro hc
 .have hf:b.flaw Zk≠0:=by simpa using hc
  have hF:b.outF l=b.flaw Zk:=by unfold Bk.outF;rw[if_neg hf]
  rw[hF,if_neg hf,if_neg hf]
  repeat refine⟨rfl,?_⟩
  conv=>whnf
  exact⟨_,_,[],rfl,.nil,by rw[K.own];exact .nil,K.imm,K.tok⟩
 have hf:b.flaw Zk=0:=by simpa using hc
 have hF:b.outF l=b.ordF l:=by unfold Bk.outF;rw[if_pos hf]
 have ao:=Bk.ok_of hf;have c1:=ao.nc;have cr:=ao.nr;rw[hF];refine⟨_,hB.sees3 (o:=1) rfl,?_⟩
 repeat refine⟨rfl,?_⟩
 conv=>whnf
 apply Qg<;>intro hc
 .have hne:l.length≠b.cs.length:=by simp at hc;omega
  have a6:b.ordF l=2:=by unfold Bk.ordF;rw[if_pos hne]
  rw[a6]
  repeat refine⟨rfl,?_⟩
  conv=>whnf
  exact⟨_,_,[],rfl,.nil,by rw[K.own];exact .nil,K.imm,K.tok⟩
 have cy:l.length=b.cs.length:=by simp at hc;omega
 have a6:b.ordF l=b.ordL [] l:=by unfold Bk.ordF;rw[if_neg O1]
 rw[a6];refine⟨_,⟨rfl,hB.rd⟩,?_⟩
 conv=>whnf
 intro b8 cj;refine⟨_,.refl _,rfl,Zv (vs:=[.slice h.ra h.rl h.rc,.slice h.ca h.cl h.cc]) cj rfl (by simp[Value.single]) λ U2 bf bh=>?_⟩;have z:=K.trans bf;refine⟨_,⟨rfl,bh.rd⟩,?_⟩;refine⟨OR.any,(Es h b ((hb.lg z.lg.frz2).lg Qr) cr).go λ _=>?_⟩;have ct:Jz b.ini.2=0:=Im _
 conv=>whnf
 intro b9 cz;refine⟨_,.refl _,rfl,HK (vs:=QS (.slice none 0 0) (W0 b.ini.1) 0) rfl (by simp[QS,Value.single]) ?_⟩;have b0:Zi U2 B #[.slice h.ra h.rl h.rc,.slice h.ca h.cl h.cc]:=hB.le bf;have ag:U.frz.lg U2.frz:=z.lg.frz2
 refine⟨Nat×Option Addr×Nat,λ y=>[(1,.slice a len cap),(2,.pointer (some ⟨B,0,none⟩)),(8,.pointer (some ⟨b8,0,none⟩)),(9,.pointer (some ⟨b9,0,none⟩)),(28,.slice a len cap),(29,.int .i64 len),(30,.int .i64 y.1)],
  λ y U'=>U2.frz.lg U'/\U'.M=.obj b9 (.cells (QS (.slice y.2.1 y.1 y.2.2) (W0 (b.ends ((l.take y.1).map Int.toNat)).1) (Jz (b.ends ((l.take y.1).map Int.toNat)).2)).toArray 122 (0,0))::U.M/\y.1<=len/\Z6 U'.frz y.2.1 y.1 (((l.take y.1).map Int.toNat).map λ(k:Nat)=>(k:Int))/\y.1<=y.2.2/\(∀ad,y.2.1=some ad->ad.spot=none)/\(∀k∈(l.take y.1).map Int.toNat,k<b.cs.length)/\b.ordL [] l=b.ordL ((l.take y.1).map Int.toNat) (l.drop y.1),
  λ y=>len-y.1,(0,none,0),T1,⟨⟨λ _ _ h=>h,⟨_,(append_nil _).symm⟩,rfl⟩,?_,O1,⟨rfl,λ i x hx=>by simp at hx⟩,Nat.le_refl _,S1,S1,rfl⟩,?_⟩
 .show _::U2.M=_;rw[z.own];show _=Qw.obj b9 (.cells (QS (.slice none 0 0) (W0 b.ini.1) (Jz b.ini.2)).toArray 122 (0,0))::U.M;rw[ct]
 rintro⟨i,xa,xc⟩f U3⟨P,hM,hi,ak,bs,bt,Q,w⟩;simp only at hM hi ak bs bt Q w;have cm:Z7 ((i:Int)+1):=I1
 have am:Zi U3 B #[.slice h.ra h.rl h.rc,.slice h.ca h.cl h.cc]:=b0.imI P.imm;have bi:Zi U3 b8 #[.slice h.ra h.rl h.rc,.slice h.ca h.cl h.cc]:=bh.imI P.imm;have ab:=Q9 [] hM;have aj:((l.take i).map Int.toNat).length=i:=by rw[length_map,length_take];omega
 have bc:∀n∈((l.take i).map Int.toNat).map (λ(k:Nat)=>(k:Int)),0<=n/\n<60:=by
  intro n hn;obtain⟨k,hk,rfl⟩:=mem_map.1 hn;have:=Q k hk;omega
 repeat refine⟨rfl,?_⟩
 conv=>whnf
 apply Qg<;>intro hc
 .have hlt:i<len:=by simpa using hc
  obtain⟨ad,n,hx,rfl,c3,hs⟩:=((hl.lg (ag.trans P.frz2)).lg Qr).at hlt;rw[Hj hx,b.ordL_cons]at w;refine⟨ad,i,⟨rfl,rfl,hlt⟩,_,hs,_,am.sees3 (o:=1) rfl,I1,?_⟩;refine⟨Gd.any,(Wq _ _ _ _).go λ _=>?_⟩;have bm:b.nc=(h.cl:Int):=by unfold Bk.nc;rw[cf]
  rw[bm]at w
  have bad:∀(Z:Qa T)(F:Int),U3.le Z->F≠0->b.ordL [] l=F->∃v1 v2 A,Value.tuple #[.slice none 0 0,.slice none 0 0,.int .i64 F]=.tuple (v1::v2::[Value.int .i64 (b.ordL [] l)]).toArray/\WL Z.frz v1 (if b.ordL [] l=0 then(b.ends (l.map Int.toNat)).1 else[])/\Acc 4 1 v2 ((if b.ordL [] l=0 then(b.ends (l.map Int.toNat)).2 else[]).map .bool) Z.M (A++U.M)/\(∀x ox,U.I x=some ox->Z.I x=some ox)/\Z.tok=U.tok:=by
   intro Z F h3 h0 e;rw[e,if_neg h0,if_neg h0];exact⟨_,_,[_],rfl,.nil,by rw[h3.own,hM];exact .nil,λ x o hx=>h3.imm x o (P.imm x o (z.imm x o hx)),h3.tok.trans (P.tok.trans z.tok)⟩
  cases a7:QP n 0 ((h.cl:Int)-1)with
  |false=>
   rw[a7]at w;have:=bad _ 6 (.refl _) D1 w
   repeat refine⟨rfl,?_⟩
   conv=>whnf
   exact this
  |true=>
  rw[if_pos a7]at w
  have cq:0<=n/\n<h.cl:=by
   simp only[QP,Bool.and_eq_true,decide_eq_true_eq]at a7;omega
  obtain⟨k,rfl⟩:=Int.eq_ofNat_of_zero_le cq.1;rw[Int.toNat_natCast]at w;have bk:k<h.cl:=O1
  have a8:(((l.take i).map Int.toNat).map λ(k:Nat)=>(k:Int)).contains (k:Int)=decide (k∈(l.take i).map Int.toNat):=by
   rw[Bool.eq_iff_iff,contains_iff_mem,decide_eq_true_eq,mem_map];constructor
   .rintro⟨k',h1,h2⟩
    rwa [<- Int.ofNat.inj h2]
   .exact λ h=>⟨k,h,rfl⟩
  refine⟨_,ab.cell (i:=0) rfl,ON.any,(DB xa i xc _ (ak.lg Qr) O1 (k:Int)).go λ _=>?_⟩;rw[a8];by_cases Y:k∈(l.take i).map Int.toNat
  .rw[if_pos Y]at w;rw[decide_eq_true Y];have:=bad _ 5 (.refl _) D1 w
   repeat refine⟨rfl,?_⟩
   conv=>whnf
   exact this
  rw[if_neg Y]at w;rw[decide_eq_false Y];obtain⟨bz,c,ga,gl,gc,aa,al,ac,cg,ch,cx,bp,-,-,ha,b2,bl⟩:=(hb.lg (ag.trans P)).case bk;have V:=ao.toLow.lt bl;have b3:=Bk.aft1_at cg;have an:=λ U'(H:U3.le U')=>Z9 (S:=S) (U:=U') aa al ac c.af (ha.lg H.lg) b2 V;have L:=Z9 (S:=S) (U:=U3) xa i xc _ (ak.lg Qr) O1 bc;rw[OB]at L;have b5:Z4 (c.af.map Int.toNat)<2^60:=Ha (toNat_lt V);have b7:Z4 ((l.take i).map Int.toNat)<2^60:=Ha λ x hx=>by have:=Q x hx;omega
  have key:_↔(Jf b.A k).all (λ k=>(Z4 ((l.take i).map Int.toNat)).testBit k)=true:=(Sn b5 b7).trans ((Sm V).trans (by rw[b3]))
  have bx:(Jf b.A k).all (λ j=>(Z4 ((l.take i).map Int.toNat)).testBit j)=(Jf b.A k).all λ j=>((l.take i).map Int.toNat).contains j:=by
   congr 1;funext j;exact Wv _ j
  rw[bx]at key;refine⟨_,am.sees3 (o:=1) rfl,bz,k,⟨ch,rfl,bk⟩,_,bp.cell (i:=3) rfl,.int .i64 (Z4 (c.af.map Int.toNat):Nat),λ U' H _=>?_,?_⟩
  .refine⟨XN.any,(an U' H).mono ?_⟩;rintro _ U''⟨rfl,hU⟩-;exact⟨rfl,_,.refl _,hU▸.refl _⟩
  refine⟨_,ab.cell (i:=0) rfl,?_⟩
  conv=>whnf
  intro U4 G _;have ah:=P.trans G.lg;have bd:=G.own.trans hM;have bo:=Q9 [] bd
  conv=>whnf
  have L:=Z9 (S:=S) (U:=U4) xa i xc _ ((ak.lg G.lg.frz2).lg Qr) O1 bc;rw[OB]at L;refine⟨XN.any,L.go λ _=>?_⟩
  repeat refine⟨rfl,?_⟩
  conv=>whnf
  apply Qg<;>intro hc
  .have hno:(Jf b.A k).all (λ j=>((l.take i).map Int.toNat).contains j)=false:=by
    cases hh:(Jf b.A k).all (λ j=>((l.take i).map Int.toNat).contains j)with
    |false=>rfl
    |true=>exact absurd (key.2 hh) (bne_iff_ne.1 hc)
   rw[hno]at w;have:=bad _ 7 G D1 w
   repeat refine⟨rfl,?_⟩
   conv=>whnf
   exact this
  have bv:(Jf b.A k).all (λ j=>((l.take i).map Int.toNat).contains j)=true:=key.1 (bne_eq_false_iff_eq.1 hc);rw[if_pos bv]at w;have E:=b.ends_len ((l.take i).map Int.toNat);have b1:Zi U4 b8 #[.slice h.ra h.rl h.rc,.slice h.ca h.cl h.cc]:=bi.le G;have ba:(l.take (i+1)).map Int.toNat=(l.take i).map Int.toNat++[k]:=by rw[Wf hx,map_append];rfl
  have cv:i<5:=O1
  have av:=DV (S:=S) (U:=U4) h b ((hb.lg (ag.trans ah.frz2)).lg Qr) ao xa xc ((l.take i).map Int.toNat) (b.ends ((l.take i).map Int.toNat)) (by rw[aj];exact(ak.lg G.lg.frz2).lg Qr) bt (by rw[aj];exact bs) (by rw[aj];omega) E.1 E.2 k O1;rw[aj,<- b.ends_snoc,<- ba]at av;refine⟨_,⟨rfl,b1.rd⟩,?_⟩;refine⟨_,⟨rfl,bo⟩,Tb.any,av.mono ?_⟩;rintro _ U5⟨⟨a',c',rfl,a0,az,bu⟩,bg⟩-;have ai:=ah.trans bg.lg;have be:=bg.own.trans bd;have aw:((l.take (i+1)).map Int.toNat).length=i+1:=by rw[length_map,length_take];omega
  rw[aw]at a0 az;refine⟨rfl,Wd (vs:=QS (.slice a' ((l.take (i+1)).map Int.toNat).length c') (W0 (b.ends ((l.take (i+1)).map Int.toNat)).1) (Jz (b.ends ((l.take (i+1)).map Int.toNat)).2)) [] be rfl (by simp[QS,Value.single]) λ U6 aq ay au=>?_⟩;rw[aw]at au;have a9:U2.frz.lg U6:=⟨λ x o hx=>by rw[aq];exact ai.imm x o hx,⟨_,(append_nil _).symm⟩,ay.trans ai.tok⟩;have bw:U5.frz.lg U6.frz:=⟨λ x o hx=>by show U6.I x=_;rw[aq];exact hx,⟨[],rfl⟩,ay⟩;refine⟨cm,rfl,(i+1,a',c'),T1,⟨a9,au,by show i+1<=len;omega,a0.lg bw,az,bu,?_,by rw[ba];exact w⟩,L1⟩;intro x ae;rw[ba,mem_append]at ae;rcases ae with ae|ae
  .exact Q x ae
  .rw[mem_singleton.1 ae];omega
 .have hge:i=l.length:=by simp at hc;omega
  subst hge;rw[drop_length]at w;have hz:b.ordL [] l=0:=w;rw[take_length]at hM ab aj Q;rw[hz,if_pos rfl,if_pos rfl];have E:=b.ends_len (l.map Int.toNat);generalize b.ends (l.map Int.toNat)=e at hM ab E;obtain⟨e1,e2⟩:=e;simp only at hM ab E;obtain⟨h1,h2⟩:=E;have br:Jz e2<2^60:=Nat.lt_trans (SS e2 (m:=5) O1) D1;refine⟨_,am.sees3 (o:=0) rfl,_,ab.cell (i:=7) rfl,_,am.sees3 (o:=1) rfl,?_⟩
  conv=>whnf
  obtain⟨eT,cu,a1,a2,a3,a4,a5⟩:=Oj.h;refine⟨λ v U'=>v=.slice (some ⟨b9,1,none⟩) h.rl 6,λ v _ _ W _=>W,λ U' H hC=>?_,λ v W=>?_⟩
  .conv=>whnf
   refine zV (b:=b9) (o:=1) (n:=h.rl) (N:=6) a1 a3 rfl rfl O1 ?_;exact⟨_,.refl _,rfl,.refl _⟩
  obtain⟨_,-,-,rfl⟩:=W;refine⟨λ v U'=>WL U'.frz v e1,λ v U1 U2 W H=>W.lg H.lg.frz2,λ U' H hC=>?_,λ v W=>?_⟩
  .have hrd':=Q9 [] (H.own.trans hM)
   have bq:Src U' (some ⟨b9,1,none⟩) (e1.map .bool):=.inr ⟨_,rfl,λ i v W=>by
    rw[getElem?_map]at W;cases hx:e1[i]? with
    |none=>rw[hx]at W;cases W
    |some x=>
     rw[hx]at W;cases W;have bj:i<6:=by have:=(List.getElem?_eq_some_iff.1 hx).1;omega
     have h3:(QM (W0 e1))[i]?=some (.bool x):=by
      rw[SP _ bj];simp[W0,getD_eq_getElem?_getD,hx]
     have h4:=hrd' (1+i) (.bool x) (by
      rcases G5 bj with rfl|rfl|rfl|rfl|rfl|rfl <;> exact h3)
     rw[Qo]at h4 ⊢
     rwa [Nat.zero_add]at h4⟩
   conv=>whnf
   refine Dx (sa:=none) (sl:=0) (cs:=[]) (new:=e1.map .bool) Ig rfl rfl (.inl ⟨rfl,rfl⟩) rfl bq (by rw[length_map];omega) (by rw[length_map,length_nil];omega) (λ h0=>?_) (λ _ bn cn bb ck cp c4 ce=>?_)
   .have:e1=[]:=by simpa using h0
    subst this;exact⟨_,.refl _,.nil,.refl _⟩
   .refine Zh ck λ U1 co b6=>⟨?_,co⟩;have b4:Zi U1.frz bn cn:=b6;have:=b4.bools (l:=e1) (cap:=bb) (λ i x hx=>ce i _ (by simp[hx]));rw[Nat.zero_add,show h.rl=e1.length by omega];exact this
  obtain⟨_,-,-,va,vc,rfl,-⟩:=W
  conv=>whnf
  intro U4 G hC;obtain⟨-,W⟩:=hC;refine⟨UQ.any,(qO (Jz e2) h.cl br O1).mono ?_⟩;rintro v U5⟨X,ap,ax⟩-;rw[show h.cl=e2.length by omega,jG]at X;obtain⟨ta,tl,tc,rfl,-,-⟩:=Acc.src (U:=U5) X;rw[G.own,hM]at X
  repeat refine⟨rfl,?_⟩
  conv=>whnf
  exact⟨_,_,[_],rfl,W.lg ⟨ap,⟨[],rfl⟩,ax⟩,X,λ x o hx=>ap x o (G.imm x o (P.imm x o (z.imm x o hx))),ax.trans (G.tok.trans (P.tok.trans z.tok))⟩
end Go.Proofs
namespace Go.TM
variable{T:Type}{P:Program}{S:Sys P T}{U:Qa T}
def Qa.on_of{A D:Qw}{M:List Qw}(h:U.M=A::D::M):U=({ U with M:=M }:Qa T).on A D:=by
 obtain⟨i,m,t⟩:=U;simp only[Qa.on]at h ⊢;rw[h]
def Bk.dfO(b:Bk)(r k:Nat)(w:Bool):Option (List Nat):=(b.all.take k).find? λ o=>(b.ends o).1.getD r false==w
def Bk.dfO_succ{b:Bk}{r k:Nat}{w:Bool}{o:List Nat}(h:b.all[k]?=some o):b.dfO r (k+1) w=(b.dfO r k w).or (if(b.ends o).1.getD r false==w then some o else none):=by
 unfold Bk.dfO;rw[Wf h,find?_append,find?_singleton]
def Bk.dfO_end(b:Bk)(r:Nat)(w:Bool):(b.dfO r b.all.length w).getD []=b.difS r w:=by unfold Bk.dfO Bk.difS;rw[take_length]
def QO(o:Option (List Nat)):List Int:=(o.getD []).map λ(k:Nat)=>(k:Int)
end Go.TM
namespace Go.Proofs
open Go.TM
variable{T:Type}{S:TM.Sys prog T}{U:Qa T}
attribute [local irreducible] Qb Zm Wo
set_option maxHeartbeats 1000000 in
def qv(h:BH)(b:Bk)(hb:Zs U.frz h b)(hk:JY U)(r:Int) :
  Qb S 20 #[h.v,.int .i64 r] (λ v U'=>(∃v1 v2,v=.tuple #[v1,v2,.int .i64 (b.askF r)]/\Jw U'.frz v1 (if b.askF r=0 then(b.difS r.toNat true).map λ(k:Nat)=>(k:Int)else[])/\Jw U'.frz v2 (if b.askF r=0 then(b.difS r.toNat false).map λ(k:Nat)=>(k:Int)else[]))/\U.le U') U:=by
 refine Qb.grown (R:=λ v U'=>∃v1 v2,v=.tuple #[v1,v2,.int .i64 (b.askF r)]/\Jw U' v1 (if b.askF r=0 then(b.difS r.toNat true).map λ(k:Nat)=>(k:Int)else[])/\Jw U' v2 (if b.askF r=0 then(b.difS r.toNat false).map λ(k:Nat)=>(k:Int)else[])) (λ v U1 U2 hl⟨v1,v2,e,h1,h2⟩=>⟨v1,v2,e,h1.lg hl,h2.lg hl⟩) (Qb.of (args:=[_,_]) UN Qe S1 ?_);have bq:=hb.rs.1
 repeat refine⟨rfl,?_⟩
 conv=>whnf
 intro B U1 be hB;have hB:Zi U1 B #[.slice h.ra h.rl h.rc,.slice h.ca h.cl h.cc]:=hB
 conv=>whnf
 intro b3 U2 a7 ad;have ad:Zi U2 b3 #[.int .i64 r]:=ad
 conv=>whnf
 intro b4 bm;refine⟨_,.refl _,?_⟩
 conv=>whnf
 intro b5 bn;refine⟨_,.refl _,?_⟩;have f:=be.trans a7;have L:U2.lg ((U2.put b4 (.cells #[.slice none 0 0] 29)).put b5 (.cells #[.slice none 0 0] 29)):=(Z2 b4 _).trans (Z2 b5 _);refine⟨_,⟨rfl,((hB.le a7).lg L).rd⟩,?_⟩;refine⟨_,(ad.lg L).sees3 (o:=0) rfl,PA.any,(Vb h b (hb.lg (f.lg.frz2.trans L.frz2)) (hk.lg (f.lg.trans L)) r).go λ _=>?_⟩;by_cases hF:b.askF r=0
 .rw[hF,if_pos rfl,if_pos rfl,if_pos rfl];obtain⟨bb,bh,bk⟩:=Bk.askF_ok hF;obtain⟨q,rfl⟩:=Int.eq_ofNat_of_zero_le bh;rw[Int.toNat_natCast];have bp:=bb.nr;have ae:q<6:=by unfold Bk.nr at bk;omega
  conv=>whnf
  intro b7 aq;refine⟨_,.refl _,rfl,Zv (vs:=[.slice h.ra h.rl h.rc,.slice h.ca h.cl h.cc]) aq rfl (by simp[Value.single]) λ U3 N a8=>?_⟩
  repeat refine⟨rfl,?_⟩
  conv=>whnf
  intro b8 bf;refine⟨_,.refl _,?_⟩;have P:=Z2 (U:=U3) b8 (.cells #[.bool false,.bool false] 125);refine⟨_,⟨rfl,(a8.lg P).rd⟩,?_⟩;refine⟨Tc.any,(E7 h b ((hb.lg (f.lg.frz2.trans (L.frz2.trans (N.lg.frz2.trans P.frz2)))).lg Qr)).mono ?_⟩;rintro _ U4⟨⟨B',rfl,a1⟩,aj⟩-;have aw:U.frz.lg U4.frz:=f.lg.frz2.trans (L.frz2.trans (N.lg.frz2.trans (P.frz2.trans aj.lg.frz2)));have ad:Zi U4 b3 #[.int .i64 (q:Int)]:=ad.lg (L.trans (N.lg.trans (P.trans aj.lg)))
  have ay:U4.M=.obj b8 (.cells #[.bool (b.dfO q 0 true).isSome,.bool (b.dfO q 0 false).isSome] 125 (0,0))::.obj b5 (.cells #[.slice none 0 0] 29 (0,0))::.obj b4 (.cells #[.slice none 0 0] 29 (0,0))::U.M:=by
   rw[aj.own];show _::U3.M=_;rw[N.own];show _::_::_::U2.M=_;rw[f.own];rfl
  have bg:∀l U5,U4.frz.lg U5->Yo S 83 #[.func (.yield l) #[] #[],.pointer (some ⟨B',0,none⟩)] l b.all.length (GF b) U5:=λ l U5 hl=>DM h b (hb.lg (aw.trans hl.frz2)) bb (a1.imI hl.imm);have a0:U4.tok=U.tok:=aj.tok.trans (P.tok.trans (N.tok.trans (L.tok.trans f.tok)));clear a1 P aj N aq bf L
  conv=>whnf
  let Inv:Nat->Qa T->Prop:=λ k U'=>U4.frz.lg U'/\∃v4 v5,U'.M=.obj b8 (.cells #[.bool (b.dfO q k true).isSome,.bool (b.dfO q k false).isSome] 125 (0,0))::.obj b5 (.cells #[v5] 29 (0,0))::.obj b4 (.cells #[v4] 29 (0,0))::U.M/\Jw U'.frz v4 (QO (b.dfO q k true))/\Jw U'.frz v5 (QO (b.dfO q k false))
  refine IF Qe b.all.length (GF b) Inv (λ _ _=>False) (λ _=>False) rfl rfl Th.any bg ?_ ?_ ⟨Qr,_,_,ay,.nil,.nil⟩ ?_ ?_ ?_ ?_
  .rintro k p U' ⟨o,v,-,rfl,-⟩;rfl
  .rintro k U' U'' G ⟨hl,v4,v5,hM,h4,h5⟩;exact⟨SY hl G,v4,v5,G.own.trans hM,h4.lg G.lg.frz2,h5.lg G.lg.frz2⟩
  .rintro l A' Bd D k p U₀ KN KX KR KA hk' ⟨o,v,ho,rfl,a,cap,rfl,hio,hcap,hsp⟩ ⟨hl,v4,v5,hM,h4,h5⟩ hKN hKX hKR hKA;obtain⟨a4,c4,rfl,h4⟩:=h4;obtain⟨Z,c5,rfl,h5⟩:=h5
   conv=>whnf
   intro b9 ba;refine⟨_,.refl _,rfl,Zv (vs:=QS (.slice a o.length cap) (W0 (b.ends o).1) (Jz (b.ends o).2)) ba rfl (by simp[QS,Value.single]) λ U5 ap av=>?_⟩
   conv=>whnf
   rw[Qa.on_of (ap.own:U5.M=A'::D::U₀.M)];refine hKA _ _ ?_;have Q:(({ U5 with M:=U₀.M }:Qa T).on Bd D).M=[Bd,D]++(.obj b8 (.cells #[.bool (b.dfO q k true).isSome,.bool (b.dfO q k false).isSome] 125 (0,0))::.obj b5 (.cells #[.slice Z (QO (b.dfO q k false)).length c5] 29 (0,0))::.obj b4 (.cells #[.slice a4 (QO (b.dfO q k true)).length c4] 29 (0,0))::U.M):=by show Bd::D::U₀.M=_;rw[hM];rfl
   have z:U₀.frz.lg (({ U5 with M:=U₀.M }:Qa T).on Bd D):=⟨λ x o h=>ap.imm x o h,⟨_,(append_nil _).symm⟩,ap.tok⟩;have a9:Zi (({ U5 with M:=U₀.M }:Qa T).on Bd D) b9 (QS (.slice a o.length cap) (W0 (b.ends o).1) (Jz (b.ends o).2)).toArray:=av;generalize(({ U5 with M:=U₀.M }:Qa T).on Bd D)=U6 at Q z a9 ⊢;clear ap av ba;have ab:Zi U6 b3 #[.int .i64 (q:Int)]:=ad.imI λ x o h=>z.imm x o (hl.imm x o h)
   have bl:(QS (.slice a o.length cap) (W0 (b.ends o).1) (Jz (b.ends o).2))[1+q]?=some (.bool ((b.ends o).1.getD q false)):=by
    have:=SP (W0 (b.ends o).1) ae;rcases G5 ae with rfl|rfl|rfl|rfl|rfl|rfl <;> exact this
   have al:Je U6 ⟨b9,0,none⟩ (QS (.slice a o.length cap) (W0 (b.ends o).1) (Jz (b.ends o).2)):=a9.reads λ k v hv=>by simpa using hv
   have au:U6.sees (((Addr.mk b9 0 none).add 1).add (q*1)) (.bool ((b.ends o).1.getD q false)):=by
    have:=al (1+q) _ bl;rw[Qo]at this;rw[Qo,Qo,Nat.mul_one]
    rwa [Nat.zero_add]at this ⊢
   have E:=b.dfO_succ (r:=q) (w:=true) ho;have F:=b.dfO_succ (r:=q) (w:=false) ho;have bc:Jw U6.frz (.slice a o.length cap) (o.map λ(k:Nat)=>(k:Int)):=⟨a,cap,S1,by rw[length_map];exact hio.lg z.frz2⟩;have h4:Jw U6.frz (.slice a4 (QO (b.dfO q k true)).length c4) (QO (b.dfO q k true)):=⟨a4,c4,rfl,h4.lg z.frz2⟩;have h5:Jw U6.frz (.slice Z (QO (b.dfO q k false)).length c5) (QO (b.dfO q k false)):=⟨Z,c5,rfl,h5.lg z.frz2⟩;have X:=Q9 [Bd,D] Q;have bo:U4.frz.lg U6.frz:=hl.frz2.trans z.frz2
   have same:∀(ax:Zj T)ao an,(∀ao an U3,U₀.frz.lg U3->Inv (k+1) U3->ax ao an (U3.on Bd D))->b.dfO q (k+1) true=b.dfO q k true->b.dfO q (k+1) false=b.dfO q k false->ax ao an U6:=by
    intro ax ao an hK e1 e2;rw[Qa.on_of (Q:U6.M=Bd::D::(.obj b8 (.cells #[.bool (b.dfO q k true).isSome,.bool (b.dfO q k false).isSome] 125 (0,0))::.obj b5 (.cells #[.slice Z (QO (b.dfO q k false)).length c5] 29 (0,0))::.obj b4 (.cells #[.slice a4 (QO (b.dfO q k true)).length c4] 29 (0,0))::U.M))];refine hK _ _ _ ⟨z.imm,⟨_,(append_nil _).symm⟩,z.tok⟩ ⟨⟨λ x o h=>z.imm x o (hl.imm x o h),⟨_,(append_nil _).symm⟩,z.tok.trans hl.tok⟩,.slice a4 (QO (b.dfO q k true)).length c4,.slice Z (QO (b.dfO q k false)).length c5,?_,?_,?_⟩
    .rw[e1,e2];rfl
    .rw[e1];exact h4
    .rw[e2];exact h5
   refine⟨_,ab.sees3 (o:=0) rfl,q,⟨rfl,ae⟩,_,au,?_⟩;cases hs:(b.ends o).1.getD q false with
   |true=>
    rw[hs]at E F;cases e4:b.dfO q k true with
    |none=>
     rw[e4]at E;simp at E F;rw[e4]at Q X;refine⟨0,⟨rfl,O1⟩,_,X 0 _ rfl,?_⟩
     repeat refine⟨rfl,?_⟩
     refine⟨_,al 0 _ rfl,rfl,Wd (vs:=[.slice a o.length cap]) [Bd,D,_,_] Q rfl (by simp[Value.single]) λ U7 H K W=>?_⟩;refine⟨0,⟨rfl,O1⟩,rfl,WM (i:=0) (v:=.bool true) [Bd,D] W (by show 0<2;omega) rfl λ U8 V Y ai=>?_⟩;have hz:U6.frz.lg U8.frz:=⟨λ x o hx=>by show U8.I x=_;rw[V,H];exact hx,⟨[],rfl⟩,Y.trans K⟩;have af:∀x o,U₀.I x=some o->U8.I x=some o:=λ x o hx=>by rw[V,H];exact z.imm x o hx
     have am:U8.tok=U₀.tok:=by rw[Y,K];exact z.tok
     conv=>whnf
     rw[Qa.on_of (ai:U8.M=Bd::D::(.obj b8 (.cells #[.bool true,.bool (b.dfO q k false).isSome] 125 (0,0))::.obj b5 (.cells #[.slice Z (QO (b.dfO q k false)).length c5] 29 (0,0))::.obj b4 (.cells #[.slice a o.length cap] 29 (0,0))::U.M))];refine hKN _ _ _ ⟨af,⟨_,(append_nil _).symm⟩,am⟩ ⟨⟨λ x o h=>af x o (hl.imm x o h),⟨_,(append_nil _).symm⟩,am.trans hl.tok⟩,.slice a o.length cap,.slice Z (QO (b.dfO q k false)).length c5,?_,?_,?_⟩
     .rw[E,F];rfl
     .rw[E];exact bc.lg hz
     .rw[F];exact h5.lg hz
    |some o'=>
     rw[e4]at E;simp at E F;have ak:=same KN;rw[e4]at Q X;refine⟨0,⟨rfl,O1⟩,_,X 0 _ rfl,?_⟩
     repeat refine⟨rfl,?_⟩
     refine⟨_,ab.sees3 (o:=0) rfl,q,⟨rfl,ae⟩,_,au,?_⟩;rw[hs]
     repeat refine⟨rfl,?_⟩
     conv=>whnf
     exact ak _ _ hKN (by rw[E,e4]) F
   |false=>
    rw[hs]at E F;cases e5:b.dfO q k false with
    |none=>
     rw[e5]at F;simp at E F;rw[e5]at Q X
     repeat refine⟨rfl,?_⟩
     refine⟨_,ab.sees3 (o:=0) rfl,q,⟨rfl,ae⟩,_,au,?_⟩;rw[hs];refine⟨1,⟨rfl,O1⟩,_,X 1 _ rfl,?_⟩
     repeat refine⟨rfl,?_⟩
     refine⟨_,al 0 _ rfl,rfl,Wd (vs:=[.slice a o.length cap]) [Bd,D,_] Q rfl (by simp[Value.single]) λ U7 H K W=>?_⟩;refine⟨1,⟨rfl,O1⟩,rfl,WM (i:=1) (v:=.bool true) [Bd,D] W (by show 1<2;omega) rfl λ U8 V Y ai=>?_⟩;have hz:U6.frz.lg U8.frz:=⟨λ x o hx=>by show U8.I x=_;rw[V,H];exact hx,⟨[],rfl⟩,Y.trans K⟩;have af:∀x o,U₀.I x=some o->U8.I x=some o:=λ x o hx=>by rw[V,H];exact z.imm x o hx
     have am:U8.tok=U₀.tok:=by rw[Y,K];exact z.tok
     conv=>whnf
     rw[Qa.on_of (ai:U8.M=Bd::D::(.obj b8 (.cells #[.bool (b.dfO q k true).isSome,.bool true] 125 (0,0))::.obj b5 (.cells #[.slice a o.length cap] 29 (0,0))::.obj b4 (.cells #[.slice a4 (QO (b.dfO q k true)).length c4] 29 (0,0))::U.M))];refine hKN _ _ _ ⟨af,⟨_,(append_nil _).symm⟩,am⟩ ⟨⟨λ x o h=>af x o (hl.imm x o h),⟨_,(append_nil _).symm⟩,am.trans hl.tok⟩,.slice a4 (QO (b.dfO q k true)).length c4,.slice a o.length cap,?_,?_,?_⟩
     .rw[E,F];rfl
     .rw[E];exact h4.lg hz
     .rw[F];exact bc.lg hz
    |some o'=>
     rw[e5]at F;simp at E F;have ak:=same KN;rw[e5]at Q X
     repeat refine⟨rfl,?_⟩
     refine⟨_,ab.sees3 (o:=0) rfl,q,⟨rfl,ae⟩,_,au,?_⟩;rw[hs];refine⟨1,⟨rfl,O1⟩,_,X 1 _ rfl,?_⟩
     repeat refine⟨rfl,?_⟩
     conv=>whnf
     exact ak _ _ hKN E (by rw[F,e5])
  .rintro d l OA U3' ⟨hl,v4,v5,hM,h4,h5⟩;obtain⟨a4,c4,rfl,h4⟩:=h4;obtain⟨Z,c5,rfl,h5⟩:=h5;have aa:(U3'.on (.obj l OA) (.obj d (.deferred (some [])))).M=[.obj l OA,.obj d (.deferred (some []))]++(.obj b8 (.cells #[.bool (b.dfO q b.all.length true).isSome,.bool (b.dfO q b.all.length false).isSome] 125 (0,0))::.obj b5 (.cells #[.slice Z (QO (b.dfO q b.all.length false)).length c5] 29 (0,0))::.obj b4 (.cells #[.slice a4 (QO (b.dfO q b.all.length true)).length c4] 29 (0,0))::U.M):=by show _::_::U3'.M=_;rw[hM];rfl
   have h4:Jw (U3'.on (.obj l OA) (.obj d (.deferred (some [])))).frz (.slice a4 (QO (b.dfO q b.all.length true)).length c4) (QO (b.dfO q b.all.length true)):=⟨a4,c4,rfl,h4⟩;have h5:Jw (U3'.on (.obj l OA) (.obj d (.deferred (some [])))).frz (.slice Z (QO (b.dfO q b.all.length false)).length c5) (QO (b.dfO q b.all.length false)):=⟨Z,c5,rfl,h5⟩;have az:U4.frz.lg (U3'.on (.obj l OA) (.obj d (.deferred (some [])))):=⟨hl.imm,⟨_,(append_nil _).symm⟩,hl.tok⟩;generalize(U3'.on (.obj l OA) (.obj d (.deferred (some []))))=U5 at aa h4 h5 az ⊢;have e1:QO (b.dfO q b.all.length true)=(b.difS q true).map λ(k:Nat)=>(k:Int):=by unfold QO;rw[b.dfO_end]
   have e2:QO (b.dfO q b.all.length false)=(b.difS q false).map λ(k:Nat)=>(k:Int):=by unfold QO;rw[b.dfO_end]
   have bi:=Q9 (b:=b4) (vs:=[.slice a4 (QO (b.dfO q b.all.length true)).length c4]) [_,_,_,_] aa;have bj:=Q9 (b:=b5) (vs:=[.slice Z (QO (b.dfO q b.all.length false)).length c5]) [_,_,_] aa;refine⟨λ U'=>U5.frz.lg U'/\U'.M=U5.M,λ U U'⟨a,b⟩G=>⟨SY a G,G.own.trans b⟩,_,bi 0 _ rfl,.slice Z (QO (b.dfO q b.all.length false)).length c5,λ U' G _=>⟨_,(bj 0 _ rfl).lg G.lg,rfl,_,.refl _,.refl _⟩,λ U' hG=>⟨_,Q9 [_,_,_] (hG.2.trans aa) 0 _ rfl,rfl,_,.refl _,.refl _⟩,?_⟩
   conv=>whnf
   intro U' G _;refine⟨⟨rfl,Yi (vs:=[.slice a4 (QO (b.dfO q b.all.length true)).length c4]) [_,_,_,_] (G.own.trans aa) rfl (by simp[Value.single]) ⟨rfl,_,.refl _,⟨⟨λ b o h=>G.imm b o h,⟨_,(append_nil _).symm⟩,G.tok⟩,aa.symm⟩⟩⟩,λ U'' hG=>?_⟩;obtain⟨ac,ah⟩:=hG;have ah:=ah.trans aa;refine⟨rfl,Wd (vs:=[.slice Z (QO (b.dfO q b.all.length false)).length c5]) [_,_,_] ah rfl (by simp[Value.single]) λ U7 H K W=>?_⟩;have hz:U5.frz.lg U7.frz:=⟨λ x o hx=>by show U7.I x=_;rw[H];exact ac.imm x o hx,⟨[],rfl⟩,K.trans ac.tok⟩;refine⟨[.obj l OA,.obj d (.deferred none)]++(.obj b8 (.cells #[.bool (b.dfO q b.all.length true).isSome,.bool (b.dfO q b.all.length false).isSome] 125 (0,0))::.obj b5 (.cells #[.slice Z (QO (b.dfO q b.all.length false)).length c5] 29 (0,0))::.obj b4 (.cells #[.slice a4 (QO (b.dfO q b.all.length true)).length c4] 29 (0,0))::U.M),by rw[W];exact .there .here,?_⟩;refine⟨_,Q9 [_,_,_,_] rfl 0 _ rfl,?_⟩;refine⟨_,Q9 [_,_,_] rfl 0 _ rfl,?_⟩;refine⟨⟨_,_,rfl,?_,?_⟩,⟨λ x o hx=>?_,⟨[_,_,_,_,_],rfl⟩,?_⟩⟩
   .rw[<- e1];exact h4.lg hz
   .rw[<- e2];exact h5.lg hz
   .show U7.I x=_;rw[H];exact ac.imm x o (az.imm x o (aw.imm x o hx))
   .show U7.tok=_;rw[K];exact ac.tok.trans (az.tok.trans a0)
  .exact λ _ _ _ _ _ h=>h.elim
  .exact λ _ _ _ _ h=>h.elim
 .rw[if_neg hF,if_neg hF,if_neg hF]
  conv=>whnf
  intro b7 aq;refine⟨_,.refl _,rfl,Zv (vs:=[.slice none 0 0,.slice none 0 0]) aq rfl (by simp[Value.single]) λ U3 N a8=>?_⟩
  have a6:U3.M=[.obj b5 (.cells #[.slice none 0 0] 29 (0,0))]++.obj b4 (.cells #[.slice none 0 0] 29 (0,0))::U.M:=by
   rw[N.own];show _::_::U2.M=_;rw[f.own];rfl
  repeat refine⟨rfl,?_⟩
  conv=>whnf
  apply Qg<;>intro hc
  .refine⟨rfl,Wd (vs:=[.slice none 0 0]) [_] a6 rfl (by simp[Value.single]) λ U4 a2 a0 ay=>?_⟩;refine⟨rfl,Wd (vs:=[.slice none 0 0]) [] ay rfl (by simp[Value.single]) λ U5 a3 bd ag=>?_⟩;refine⟨_,Q9 [_] ag 0 _ rfl,_,Q9 [] ag 0 _ rfl,⟨_,_,rfl,.nil,.nil⟩,⟨λ x o hx=>?_,⟨[_,_],ag⟩,?_⟩⟩
   .rw[a3,a2];exact N.imm x o (L.imm x o (f.imm x o hx))
   .rw[bd,a0];exact N.tok.trans (L.tok.trans f.tok)
  .exact absurd (by simpa using hc) hF
end Go.Proofs
namespace Go.TM
variable{T:Type}{P:Program}{S:Sys P T}{f:Fm}{K:Value->Qa T->Prop}{U:Qa T}
def Nr{t e ty n:Nat}{z:Value}{w:TypeInfo}{x y:Operand}(X:P.underlying t=some (.slice e))(G:P.info? e=some w)(Z:w.zero=some z)(N:z.cells=#[z])(L:w.size=1)(F:w.bytes<=64)
  (hx:Zf f x=.int .i64 0) (hy:Zf f y=.int .i64 n) (W:n<=1048576) (h:∀b,U.free b->K (.slice (some ⟨b,0,none⟩) 0 n) (U.put b (.cells (replicate n z).toArray e))) :
  OX S (.raw { dst:=none,op:=.makeSlice t x y,type:=ty,pos := "", after:=#[],guard:=none }) f K U:=by
 intro a' ha;simp only[execOp,ha,hx,hy];refine rq ?_;unfold Instr.makeSlice;have Y:IntKind.wrap .i64 (n:Int)=n:=Gh I1;have M:IntKind.wrap .i64 (0:Int)=0:=D1
 simp only[Qd,Zb X,asInt,asIntOf,Qi,We G,Y,M]
 have V:(w.bytes:Int)*(n:Int)<=67108864:=by
  have:=Nat.mul_le_mul F W;have e:((w.bytes*n:Nat):Int)=(w.bytes:Int)*n:=S1
  omega
 have E:(2:Int)^48=281474976710656:=D1
 have I:(((decide ((n:Int)<0)|| decide ((w.bytes:Int)*(n:Int) > 2^48))|| decide ((0:Int)<0))|| decide ((0:Int) > n))=false:=by
  rw[E];simp only[Bool.or_eq_false_iff,decide_eq_false_iff_not];omega
 simp only[I,Bool.false_eq_true,if_false];rw[Qd];refine PT ?_;simp only[Qd,Jd G,L,Nat.mul_one,Int.toNat_natCast]
 have fin:∀c:Array Value,(n≠0->c=z.cells)->Qq P (newRow e ((Array.range n).map (c[· % c.size]!))) (λ a U'=>∃Q,Qv U' Q/\K (.slice (some a) 0 n) Q) U:=by
  intro c T;refine Jh λ b hb=>⟨_,.refl _,?_⟩
  have:(Array.range n).map (c[· % c.size]!)=(replicate n z).toArray:=by
   apply Array.ext
   .simp
   .intro i h1 h2;have H:n≠0:=by simp at h1;omega
    have B:=T H;rw[N]at B;subst B;simp[Nat.mod_one]
  rw[this];exact h b hb
 split
 .rename_i h0;exact fin #[] λ h=>absurd h0 h
 .simp only[Qd,X7 G Z];exact fin _ λ _=>rfl
def WI.perm{M':List Qw}(f:WI U)(h:U.M.Perm M'):WI { U with M:=M' }:=λ r b=>f r (h.mem_iff.2 b)
def Jo.freeze{e n:Nat}{v:Value}{cs:List Value}{A R:List Qw}(E:WI U)(h:Jo e n v cs A)(w:U.M.Perm (A++R)) :
  ∃U'',Qv U U''/\U''.M=R/\U.frz.lg U''.frz/\∃a len cap,v=.slice a len cap/\cs.length=len*n/\Src U''.frz a cs/\(∀f,a=some f->f.spot=none):=by
 obtain⟨U'',F,b,a,len,cap,z,h1,h2,B,-⟩:=(h R).freeze (U:={ U with M:=R }) (U':={ U with M:=A++R }) (E.perm w) (λ _ _ h=>h) rfl;exact⟨U'',(Wp w).trans F,b.own,⟨b.imm,⟨[],rfl⟩,b.tok⟩,a,len,cap,z,h1,h2,B⟩
def Jo.blk{e n:Nat}{v:Value}{cs:List Value}{A:List Qw}(h:Jo e n v cs A)(f:cs≠[]):∃b c len cap,v=.slice (some ⟨b,0,none⟩) len cap/\cs.length=len*n/\len<=cap/\c.size=cap*n/\A=[.obj b (.cells c e (0,0))]/\∀(i:Nat)(x:Value),cs[i]?=some x->c[i]?=some x:=by
 rcases h []with⟨_,h1,_⟩|⟨b,c,len,cap,h1,h2,w,z,B,h5⟩
 .exact absurd h1 f
 .exact⟨b,c,len,cap,h1,h2,w,z,by simpa using B,h5⟩
def Jo.ofBlk{e n b len cap:Nat}{cs:List Value}{c:Array Value}(h1:cs.length=len*n)(h2:len<=cap)(f:c.size=cap*n)(h:∀(i:Nat)(x:Value),cs[i]?=some x->c[i]?=some x):Jo e n (.slice (some ⟨b,0,none⟩) len cap) cs [.obj b (.cells c e (0,0))]:=
 λ _=>.inr ⟨b,c,len,cap,rfl,h1,h2,f,rfl,h⟩
end Go.TM
namespace Go.TM
def Acc.room{e n:Nat}{a:Option Addr}{l c:Nat}{cs:List Value}{M M₀:List Qw}(h:Acc e n (.slice a l c) cs M M₀):l<=c:=by
 rcases h with⟨e,-,-⟩|⟨_,_,_,_,e,-,h,-⟩ <;> cases e
 .exact Nat.le_refl _
 .exact h
end Go.TM
namespace Go.Proofs
open Go.TM
variable{T:Type}{S:TM.Sys prog T}{U:Qa T}
attribute [local irreducible] Qb Zm Wo
def wi:X6 prog 35 9 1:=.of K1
def po:prog.underlying 35=some (.slice 9):=K1
def wj:X6 prog 42 29 1:=.of K1
def pp:prog.underlying 42=some (.slice 29):=K1
def If:X6 prog 36 44 4:=.of K1
def DO(a:Option Addr)(len cap:Nat)(l:List ByteArray)(hl:Q7 U a len 1 l λ s vs=>vs=[.string s])(Q:len<=1000) :
  Qb S 79 #[.slice a len cap] (λ v U'=>(∃a' b cap',v=.slice a' b cap'/\b<=cap'/\Q7 U'.frz a' b 1 l λ s vs=>vs=[.string s])/\U.le U') U:=by
 have E:=hl.1
 have H:Qb S 79 #[.slice a len cap] (λ v U'=>Acc 9 1 v (l.map .string) U'.M U.M/\(∀x o,U.I x=some o->U'.I x=some o)/\U'.tok=U.tok) U:=by
  refine Qb.of (args:=[_]) Tf Qe S1 ?_
  conv=>whnf
  refine K0 po rfl ?_
  conv=>whnf
  apply Qg<;>intro P
  .have ha:a=none:=by simpa using P
   subst ha
   have:l=[]:=by
    cases l with
    |nil=>rfl
    |cons x r=>
     obtain⟨f,_,_,_,h,_⟩:=Q7.at hl (show 0<len by simp at E;omega);cases h
   subst this
   repeat refine⟨rfl,?_⟩
   conv=>whnf
   exact⟨.nil,λ _ _ h=>h,rfl⟩
  .obtain⟨f,rfl⟩:∃f,a=some f:=by cases a with|none=>cases P|some f=>exact⟨f,rfl⟩
   conv=>whnf
   intro N Z;refine⟨_,.refl _,?_⟩
   conv=>whnf
   refine Wn (v:=.slice (some ⟨N,0,none⟩) 0 0) (cs:=[]) (new:=l.map .string) (M₀:=U.M) wi rfl rfl .empty (.inr ⟨_,rfl,λ i v z=>?_⟩) (by simp[E]) (by simp[Value.single]) S3 λ v' M' B _=>?_
   .rw[getElem?_map]at z;cases hx:l[i]? with
    |none=>rw[hx]at z;cases z
    |some x=>
     rw[hx]at z;cases z;have hi:i<len:=by have:=(List.getElem?_eq_some_iff.1 hx).1;omega
     obtain⟨X,x',vs,G,e,w,rfl,-,L⟩:=Q7.at hl hi;cases e;rw[hx]at G;cases G;have K:=L 0 _ rfl;obtain⟨bb,V,W⟩:=f;cases w;rw[Qo,Qo,Nat.mul_one,Nat.add_zero]at K;rw[Qo];exact K.lg (Z2 N _)
   obtain⟨ta,tl,tc,rfl,-,-⟩:=Acc.src (U:={ U with M:=M' }) B
   repeat refine⟨rfl,?_⟩
   conv=>whnf
   exact⟨by simpa using B,λ _ _ h=>h,rfl⟩
 refine H.sep λ v U' K⟨ha,Y,ht⟩=>?_;obtain⟨U'',k1,k2,a',b,cap',rfl,hl',F,w,_⟩:=ha.freeze K Y ht;refine⟨U'',k1,⟨a',b,cap',rfl,ha.room,?_⟩,k2⟩;refine⟨by simp at hl';exact hl',λ i x hx=>?_⟩;rcases F with⟨_,T⟩|⟨f,rfl,L⟩
 .rw[map_eq_nil_iff]at T;subst T;simp at hx
 .refine⟨f,[.string x],rfl,w f rfl,rfl,rfl,λ k v z=>?_⟩;cases k with
  |zero=>
   simp at z;subst z;have h1:=L i (.string x) (by simp[hx]);obtain⟨bb,V,W⟩:=f;cases w ⟨bb,V,W⟩ rfl;rw[Qo]at h1;rw[Qo,Qo,Nat.mul_one,Nat.add_zero];exact h1
  |succ k=>simp at z
end Go.Proofs
namespace Go.TM
variable{T:Type}{P:Program}{S:Sys P T}{U U':Qa T}
def Qb.okv{f:FuncId}{args:Array Value}{R R':Value->Qa T->Prop}{U:Qa T}(h:Qb S f args R U)(z:∀v U',(∃w,U'.ok w)->R v U'->∃U'',Qv U' U''/\R' v U''):Qb S f args R' U:=by
 intro Stop m c cs k;refine h Stop m c cs λ v U' r=>?_;by_cases b:∃w,U'.ok w
 .obtain⟨U'',h1,h2⟩:=z v U' b r;exact .shift h1 (k v _ h2)
 .exact .priv ⟨rfl,λ w ok=>absurd ⟨w,ok⟩ b⟩
def Y9(h:∃w,U.ok w):WI U:=let ⟨_,ok⟩:=h;ok.sep
def ID(h:∃w,U.ok w)(k:Qv U U'):∃w,U'.ok w:=let ⟨w,ok⟩:=h;⟨w,(k.2 w ok).1⟩
structure ZK where
 ga:Option Addr
 gl:Nat
 gc:Nat
 v:Value
 F:List Qw
def Q_(p:Cs×ZK):List Value:=[.string p.1.nm,.int .i64 p.1.ag,.slice p.2.ga p.2.gl p.2.gc,p.2.v]
structure WY(U:Qa T)(p:Cs×ZK):Prop where
 gs:Wx U.frz p.2.ga p.2.gl p.1.gs
 gl:p.2.gl<2^60
 af:Jo 3 1 p.2.v (p.1.af.map λ n=>.int .i64 n) p.2.F
 nm:p.1.nm.size<2^60
 al:p.1.af.length<=1000
def WY.lg{p:Cs×ZK}(h:WY U p)(k:U.frz.lg U'.frz):WY U' p:=⟨h.gs.lg k,h.gl,h.af,h.nm,h.al⟩
def Qz{α β:Type}{f:α->List β}{n:Nat}(hf:∀a,(f a).length=n):∀l:List α,(l.flatMap f).length=l.length*n
 |[]=>S1
 |a::l=>by simp only[flatMap_cons,length_append,hf,Qz hf l,length_cons,Nat.succ_mul];omega
def Zz(p:Cs×ZK):(Q_ p).length=4:=rfl
def P5{α β:Type}{f:α->List β}{n:Nat}(hf:∀a,(f a).length=n){l:List α}{i j:Nat}{a:α}(h:l[i]?=some a)(w:j<n):(l.flatMap f)[i*n+j]?=(f a)[j]?:=by
 induction l generalizing i with
 |nil=>cases h
 |cons b l z=>
  cases i with
  |zero=>
   simp at h;subst h;rw[flatMap_cons,Nat.zero_mul,Nat.zero_add,getElem?_append_left (by rw[hf];exact w)]
  |succ i=>
   simp at h;rw[flatMap_cons,getElem?_append_right (by rw[hf,Nat.succ_mul];omega),hf];rw[<- z h];congr 1;rw[Nat.succ_mul];omega
structure QR(U:Qa T)(h:BH)(b:Bk)(M₀:List Qw):Prop where
 ex:∃(ps:List (Cs×ZK))(A:List Qw),ps.map (·.1)=b.cs/\(∀p∈ps,WY U p)/\Jo 44 4 (.slice h.ca h.cl h.cc) (ps.flatMap Q_) A/\U.M.Perm (A++(ps.flatMap (·.2.F)++M₀))
 rs:Q7 U.frz h.ra h.rl 1 b.rs λ s vs=>vs=[.string s]
 rl:h.rl<2^60
 rn:∀s∈b.rs,s.size<2^60
 rc:h.rl<=h.rc
def QR.le{h:BH}{b:Bk}{M₀:List Qw}(k:QR U h b M₀)(hl:U.le U'):QR U' h b M₀:=
 let ⟨ps,A,h1,h2,h3,h4⟩:=k.ex
 ⟨⟨ps,A,h1,λ p f=>(h2 p f).lg hl.lg.frz2,h3,by rw[hl.own];exact h4⟩,k.rs.lg hl.lg.frz2 λ _ _ h=>h,k.rl,k.rn,k.rc⟩
def Lc:∀(B:List (Cs×ZK)){U:Qa T}{R:List Qw},(∃w,U.ok w)->(∀p∈B,WY U p)->U.M.Perm (B.flatMap (·.2.F)++R) ->
  ∃U'',Qv U U''/\U''.M.Perm R/\U.frz.lg U''.frz/\∀p∈B,∃aa al ac,p.2.v=.slice aa al ac/\Z6 U''.frz aa al p.1.af/\al<2^60
 |[],U,R,_,_,E=>⟨U,.refl _,by simpa using E,⟨λ _ _ h=>h,⟨[],rfl⟩,rfl⟩,S1⟩
 |p::B,U,R,I,b,E=>by
  have H:=b p (mem_cons_self ..);rw[flatMap_cons,append_assoc]at E;obtain⟨P,K,S,L,a,len,cap,e,hl,z,G⟩:=H.af.freeze (Y9 I) E;obtain⟨Q,V,W,N,X⟩:=Lc B (U:=P) (R:=R) (ID I K) (λ q f=>(b q (mem_cons_of_mem _ f)).lg L) (by rw[S]);refine⟨Q,K.trans V,W,L.trans N,λ q f=>?_⟩;rcases mem_cons.1 f with rfl|f
  .simp at hl;subst hl;exact⟨a,_,cap,e,(KS z G).lg N,by have:=H.al;omega⟩
  .exact X q f
def QR.freeze{h:BH}{b:Bk}{M₀:List Qw}(k:QR U h b M₀)(V:∃w,U.ok w)(ab:b.cs.length<=1000):∃U'',Qv U U''/\U''.M=M₀/\U.frz.lg U''.frz/\Zs U''.frz h b:=by
 obtain⟨E,A,h1,h2,Z,h4⟩:=k.ex
 have P:U.M.Perm (E.flatMap (·.2.F)++(A++M₀)):=h4.trans (by
  rw[<- append_assoc,<- append_assoc];exact Perm.append_right _ perm_append_comm)
 obtain⟨U1,W,k2,S,k4⟩:=Lc E V h2 P;obtain⟨X,m1,m2,N,a,len,cap,e,hl,K,I⟩:=Z.freeze (Y9 (ID V W)) k2;cases e;rw[Qz Zz]at hl;have G:b.cs.length=h.cl:=by rw[<- h1,length_map];omega
 refine⟨X,W.trans m1,m2,S.trans N,k.rs.lg (S.trans N) λ _ _ h=>h,⟨G,λ i c f=>?_⟩,k.rl,O1,k.rn,λ c f=>?_⟩
 .have hpi:∃p,E[i]?=some p/\p.1=c:=by
   rw[<- h1,getElem?_map]at f;cases hx:E[i]? with
   |none=>rw[hx]at f;cases f
   |some p=>rw[hx]at f;cases f;exact⟨p,rfl,rfl⟩
  obtain⟨p,H,rfl⟩:=hpi;have B:=mem_of_getElem? H;obtain⟨aa,al,ac,Y,hi,Q⟩:=k4 p B;rcases K with⟨_,hn⟩|⟨L,z,hr⟩
  .have:E=[]:=by
    cases E with
    |nil=>rfl
    |cons q r=>simp[Q_]at hn
   subst this;cases H
  .refine⟨L,Q_ p,z,I L z,⟨p.2.ga,p.2.gl,p.2.gc,aa,al,ac,by rw[<- Y];rfl,(h2 p B).gs.lg (S.trans N),(h2 p B).gl,hi.lg N,Q⟩,rfl,λ j v T=>?_⟩;have hj:j<4:=by have:=(List.getElem?_eq_some_iff.1 T).1;exact this
   have h5:=hr (i*4+j) v (by rw[P5 Zz H hj];exact T);have hs:=I L z;obtain⟨bb,oo,ss⟩:=L;cases hs;rw[Qo]at h5;rw[Qo,Qo,Nat.add_assoc];exact h5
 .rw[<- h1]at f;obtain⟨p,H,rfl⟩:=mem_map.1 f;exact(h2 p H).nm
end Go.TM
namespace Go.Proofs
open Go.TM
variable{T:Type}{S:TM.Sys prog T}{U:Qa T}
attribute [local irreducible] Qb Zm Wo
def pM:∃b,prog.info? 29=some b/\b.zero=some (.slice none 0 0)/\b.size=1/\b.bytes<=64:=by
 have h1:(prog.info? 29).map (·.zero)=some (some (.slice none 0 0)):=K1
 have h2:(prog.info? 29).map (·.size)=some 1:=K1
 have f:(prog.info? 29).map (λ i=>decide (i.bytes<=64))=some true:=K1
 cases h:prog.info? 29 with
 |none=>rw[h]at h1;cases h1
 |some b=>
  rw[h]at h1 h2 f;exact⟨b,rfl,Option.some.inj h1,Option.some.inj h2,by simpa using f⟩
def DJ(c:Cs)(ga aa:Option Addr)(gl gc al ac:Nat)(hg:Wx U.frz ga gl c.gs)(bq:gl<=1000)(ha:Z6 U.frz aa al c.af)(bk:al<=1000)(ba:∀g∈c.gs,g.length<=1000)(bc:c.nm.size<2^60) :
  Qb S 80 #[.agg #[.string c.nm,.int .i64 c.ag,.slice ga gl gc,.slice aa al ac]] (λ v U'=>(∃k:ZK,v=.agg (Q_ (c,k)).toArray/\WY U' (c,k)/\U'.M=k.F++U.M)/\(∀x o,U.I x=some o->U'.I x=some o)/\U'.tok=U.tok) U:=by
 have bj:=hg.1;have bh:=ha.1
 have ax:Qb S 80 #[.agg #[.string c.nm,.int .i64 c.ag,.slice ga gl gc,.slice aa al ac]] (λ v U'=>∃g v' cells G F Y,v=.agg #[.string c.nm,.int .i64 c.ag,g,v']/\Jo 29 1 g cells G/\Xd U' cells c.gs/\Jo 3 1 v' (c.af.map λ n=>.int .i64 n) F/\U'.M=F++(G++(Y++U.M))/\(∀x o,U.I x=some o->U'.I x=some o)/\U'.tok=U.tok) U:=by
  refine Qb.of (args:=[_]) Tg Qe S1 ?_;obtain⟨bu,i1,i2,i3,i4⟩:=pM
  conv=>whnf
  intro H bm
  conv=>whnf
  intro K bo;refine⟨_,.refl _,?_⟩;have hM:((U.put H (.cells [.string c.nm,.int .i64 c.ag,.slice ga gl gc,.slice aa al ac].toArray 44)).put K (.cells #[.string ⟨#[]⟩,.int .i64 0,.slice none 0 0,.slice none 0 0] 44)).M=[.obj K (.cells #[.string ⟨#[]⟩,.int .i64 0,.slice none 0 0,.slice none 0 0] 44 (0,0))]++.obj H (.cells [.string c.nm,.int .i64 c.ag,.slice ga gl gc,.slice aa al ac].toArray 44 (0,0))::U.M:=rfl;have bs:U.frz.lg ((U.put H (.cells [.string c.nm,.int .i64 c.ag,.slice ga gl gc,.slice aa al ac].toArray 44)).put K (.cells #[.string ⟨#[]⟩,.int .i64 0,.slice none 0 0,.slice none 0 0] 44)):=⟨λ _ _ h=>h,⟨_,(append_nil _).symm⟩,rfl⟩;refine⟨_,(Q9 [_] hM).cell (i:=2) rfl,?_⟩
  conv=>whnf
  refine Nr (n:=gl) pp i1 i2 rfl i3 i4 rfl rfl O1 λ bg bl=>?_;have a1:(((U.put H (.cells [.string c.nm,.int .i64 c.ag,.slice ga gl gc,.slice aa al ac].toArray 44)).put K (.cells #[.string ⟨#[]⟩,.int .i64 0,.slice none 0 0,.slice none 0 0] 44)).put bg (.cells (replicate gl (Value.slice none 0 0)).toArray 29)).M=[.obj bg (.cells (replicate gl (Value.slice none 0 0)).toArray 29 (0,0)),.obj K (.cells #[.string ⟨#[]⟩,.int .i64 0,.slice none 0 0,.slice none 0 0] 44 (0,0))]++.obj H (.cells [.string c.nm,.int .i64 c.ag,.slice ga gl gc,.slice aa al ac].toArray 44 (0,0))::U.M:=rfl;refine⟨_,(Q9 [_,_] a1).cell (i:=2) rfl,Nat×Value,λ y=>[(1,.pointer (some ⟨H,0,none⟩)),(2,.pointer (some ⟨K,0,none⟩)),(3,y.2),(11,.slice ga gl gc),(12,.int .i64 gl),(13,.int .i64 y.1)],
   λ y U'=>U.frz.lg U'/\(∃A cells,U'.M=A++([.obj K (.cells #[.string ⟨#[]⟩,.int .i64 0,.slice none 0 0,.slice none 0 0] 44 (0,0)),.obj H (.cells [.string c.nm,.int .i64 c.ag,.slice ga gl gc,.slice aa al ac].toArray 44 (0,0))]++U.M)/\Jo 29 1 y.2 cells A/\Xd U' cells (c.gs.take y.1))/\y.1<=gl,λ y=>gl-y.1,(0,.slice (some ⟨bg,0,none⟩) 0 gl),T1,⟨⟨λ _ _ h=>h,⟨_,(append_nil _).symm⟩,rfl⟩,⟨[_],[],rfl,.ofBlk rfl O1 S1 S1,⟨rfl,S1⟩⟩,O1⟩,?_⟩
  rintro⟨i,v⟩f U1⟨E,⟨A,cells,Q,z,w⟩,hi⟩;simp only at z w hi;obtain⟨sa,sl,sc,rfl,bt⟩:=z.src;have bb:Z7 ((i:Int)+1):=I1
  have a8:=w.1;rw[length_take]at a8
  repeat refine⟨rfl,?_⟩
  conv=>whnf
  apply Qg<;>intro hc
  .have hlt:i<gl:=by simpa using hc
   obtain⟨ad,g,vs,hx,rfl,ap,⟨a',aw,cap',rfl,aj,bp⟩,-,bd⟩:=Q7.at (Wx.lg hg E) hlt;have br:=ba g (mem_of_getElem? hx);have bi:=aj.1;refine⟨ad,i,⟨rfl,rfl,hlt⟩,_,bd 0 _ rfl,Pz.any,(Qb.ints (e:=3) (DT a' aw cap' g aj O1)).mono ?_⟩;rintro _ U2⟨⟨ca,cc,rfl,a7⟩,a4⟩-
   conv=>whnf
   intro bn a9;refine Zh a9 λ U3 ai V=>?_;have V:Zi U3 bn #[.slice ca g.length cc]:=V;have B:=a4.trans ai
   have W:Xd U3 (cells++[.slice ca g.length cc]) (c.gs.take (i+1)):=by
    rw[Wf hx];exact(w.lg B.lg.frz2).snoc (a7.lg ai.lg.frz2) O1
   conv=>whnf
   refine Wn (v:=.slice sa sl sc) (cs:=cells) (new:=[.slice ca g.length cc]) (M₀:=[.obj K (.cells #[.string ⟨#[]⟩,.int .i64 0,.slice none 0 0,.slice none 0 0] 44 (0,0)),.obj H (.cells [.string c.nm,.int .i64 c.ag,.slice (some ad) gl gc,.slice aa al ac].toArray 44 (0,0))]++U.M) wj rfl rfl (by rw[B.own,Q];exact z _) (.inr ⟨_,rfl,V.rd⟩) rfl (by simp[Value.single]) S3 λ v' M' a5 _=>?_;obtain⟨ay,a0,P⟩:=a5.split;obtain⟨ta,tl,tc,rfl,-⟩:=P.src;have am:U.frz.lg ({ U3 with M:=M' }:Qa T):=⟨λ x o h=>B.imm x o (E.imm x o h),⟨_,(append_nil _).symm⟩,B.tok.trans E.tok⟩;refine⟨bb,?_⟩
   conv=>whnf
   exact⟨rfl,(i+1,.slice ta tl tc),T1,⟨am,⟨ay,_,a0,P,W.lg ⟨λ _ _ h=>h,⟨[],rfl⟩,rfl⟩⟩,by show i+1<=gl;omega⟩,L1⟩
  .have hge:i=c.gs.length:=by simp at hc;omega
   subst hge;rw[take_length]at w;have ao:=Q9 (U:=U1) (b:=H) (e:=44) (M₀:=U.M) (vs:=[.string c.nm,.int .i64 c.ag,.slice ga gl gc,.slice aa al ac]) (A++[.obj K (.cells #[.string ⟨#[]⟩,.int .i64 0,.slice none 0 0,.slice none 0 0] 44 (0,0))]) (by rw[Q];simp);refine⟨_,ao.cell (i:=3) rfl,Pz.any,(DT aa al ac c.af (ha.lg E) O1).mono ?_⟩;rintro v U2⟨a6,X,au⟩-;obtain⟨F,a3,hF⟩:=a6.split;obtain⟨fa,fl,fc,rfl,-⟩:=hF.src;have a2:U2.M=(F++A++[.obj K (.cells #[.string ⟨#[]⟩,.int .i64 0,.slice none 0 0,.slice none 0 0] 44 (0,0))])++.obj H (.cells [.string c.nm,.int .i64 c.ag,.slice ga gl gc,.slice aa al ac].toArray 44 (0,0))::U.M:=by rw[a3,Q];simp
   refine⟨rfl,WM (i:=2) (v:=.slice sa sl sc) _ a2 (by show 2<4;omega) rfl λ U3 az be ah=>?_⟩;refine⟨rfl,WM (i:=3) (v:=.slice fa fl fc) _ ah (by show 3<4;omega) rfl λ U4 Z bf L=>?_⟩;have L:U4.M=(F++A++[.obj K (.cells #[.string ⟨#[]⟩,.int .i64 0,.slice none 0 0,.slice none 0 0] 44 (0,0))])++.obj H (.cells [.string c.nm,.int .i64 c.ag,.slice sa sl sc,.slice fa fl fc].toArray 44 (0,0))::U.M:=L;have ae:U4.M=(F++A)++.obj K (.cells #[.string ⟨#[]⟩,.int .i64 0,.slice none 0 0,.slice none 0 0] 44 (0,0))::.obj H (.cells [.string c.nm,.int .i64 c.ag,.slice sa sl sc,.slice fa fl fc].toArray 44 (0,0))::U.M:=by rw[L];simp
   refine⟨_,⟨rfl,Q9 _ L⟩,rfl,Wd (vs:=[.string c.nm,.int .i64 c.ag,.slice sa sl sc,.slice fa fl fc]) _ ae rfl (by simp[Value.single]) λ U5 ab av N=>?_⟩;refine⟨_,⟨rfl,Q9 _ N⟩,?_⟩;have hz:U1.frz.lg U5.frz:=⟨λ x o h=>by show U5.I x=_;rw[ab,Z,az];exact X x o h,⟨[],rfl⟩,by show U5.tok=_;rw[av,bf,be];exact au⟩
   conv=>whnf
   exact⟨_,_,cells,A,F,[_,_],rfl,z,w.lg hz,hF,by rw[N];simp;exact⟨rfl,rfl⟩,λ x o h=>hz.imm x o (E.imm x o h),hz.tok.trans E.tok⟩
 refine ax.okv λ v U' hw⟨g,v',cells,G,F,Y,hv,hG,w,hF,hM,hI,ht⟩=>?_
 have hp:U'.M.Perm (G++(F++(Y++U.M))):=by
  rw[hM];exact perm_append_comm_assoc _ _ _
 obtain⟨U1,k1,k2,k3,a,len,cap,rfl,hl,aq,ap⟩:=hG.freeze (Y9 hw) hp;have ak:c.gs.length=len:=by rw[<- w.1];omega
 have an:=(w.lg k3).lists aq ap;rw[ak]at an;refine⟨{ U1 with M:=F++U.M },k1.trans (Zx (by rw[k2];exact(Sublist.refl F).append (sublist_append_right Y U.M))),⟨⟨a,len,cap,v',F⟩,hv,⟨an,by show len<_;omega,hF,bc,by show c.af.length<=_;omega⟩,rfl⟩,λ x o h=>k3.imm x o (hI x o h),k3.tok.trans ht⟩
def Eu:List (List (Nat×St)):=[[(0,.xo 19 1 3),(0,.xl 20 19),(0,.xd 21 4 5),(2,.d 22 (.call (.func 80) #[(.t 21)])),(2,.d 23 (.bsl 44 1 #[(.string ⟨#[]⟩),(.int .i64 0),(.slice none 0 0),(.slice none 0 0)] [(0,4,(.t 22))]))]]
def MT:List St:=[.xz 24 20 23 36,.xo 25 1 3,⟨.st 1 (.t 25) (.t 24),none,none,none⟩]
def E6:List (List (Nat×St)):=[[(0,.xo 152 1 10),(0,.xl 153 152),(0,.m 154 15),(0,.xo 155 1 10),(0,.xl 156 155),(0,.m 157 15),(0,.xi 158 4 156 157),(0,.xo 159 3 158),(0,.xl 160 159),(0,.m 161 17),(2,.d 162 (.bsl 3 1 #[(.int .i64 0)] [(0,1,(.t 161))])),(2,.xz 163 160 162 29)]]
def zI:List St:=[.xi 164 4 153 154,.xo 165 3 164,⟨.st 1 (.t 165) (.t 163),none,none,none⟩]
end Go.Proofs
namespace Go.TM
def Q7.case{T:Type}{U:Qa T}{h:BH}{b:Bk}(k:Q7 U h.ca h.cl 4 b.cs (P_ U)){i:Nat}(G:i<h.cl) :
  ∃f c ga gl gc aa al ac,b.cs[i]?=some c/\h.ca=some f/\f.spot=none/\Je U (f.add (i*4)) [.string c.nm,.int .i64 c.ag,.slice ga gl gc,.slice aa al ac]/\Wx U ga gl c.gs/\gl<2^60/\Z6 U aa al c.af/\al<2^60/\c∈b.cs:=by
 obtain⟨f,c,vs,hx,w,B,⟨ga,gl,gc,aa,al,ac,rfl,h1,h2,E,F⟩,-,z⟩:=k.at G;exact⟨f,c,ga,gl,gc,aa,al,ac,hx,w,B,z,h1,h2,E,F,mem_of_getElem? hx⟩
structure Bk.Sml(b:Bk):Prop where
 rs:b.rs.length<=1000
 cs:b.cs.length<=1000
 gs:∀c∈b.cs,c.gs.length<=1000/\(∀g∈c.gs,g.length<=1000)/\c.af.length<=1000
end Go.TM
namespace Go.Proofs
open Go.TM
variable{T:Type}{S:TM.Sys prog T}{U:Qa T}
attribute [local irreducible] Qb Zm Wo
set_option maxHeartbeats 1000000 in
def MP(h:BH)(b:Bk)(hb:Zs U.frz h b)(hs:b.Sml) :
  Qb S 115 #[h.v] (λ v U'=>(∃Z:BH,v=Z.v/\QR U' Z b U.M)/\(∀x o,U.I x=some o->U'.I x=some o)/\U'.tok=U.tok) U:=by
 have b9:=hb.cs.1;have ck:=hb.rs.1;have cm:=hs.rs;have co:=hs.cs
 have bk:Qb S 115 #[h.v] (λ v U'=>∃(Z:BH)(H:List (Cs×ZK))(A R Y:List Qw),v=Z.v/\H.map (·.1)=b.cs/\(∀p∈H,WY U' p)/\Jo 44 4 (.slice Z.ca Z.cl Z.cc) (H.flatMap Q_) A/\U'.M=A++(R++(Y++U.M))/\R.Perm (H.flatMap (·.2.F))/\Q7 U'.frz Z.ra Z.rl 1 b.rs (λ s vs=>vs=[.string s])/\Z.rl<=Z.rc/\(∀x o,U.I x=some o->U'.I x=some o)/\U'.tok=U.tok) U:=by
  refine Qb.of (args:=[_]) FO Qe S1 ?_
  repeat refine⟨rfl,?_⟩
  conv=>whnf
  intro B U1 ax hB;have hB:Zi U1 B #[.slice h.ra h.rl h.rc,.slice h.ca h.cl h.cc]:=hB
  conv=>whnf
  intro Q ce;refine⟨_,.refl _,?_⟩;have a3:=Z2 (U:=U1) Q (.cells #[.slice none 0 0,.slice none 0 0] 92);refine⟨_,(hB.lg a3).sees3 (o:=0) rfl,Tf.any,(DO h.ra h.rl h.rc b.rs ((hb.rs.lg (ax.lg.frz2.trans a3.frz2) λ _ _ h=>h).lg Qr λ _ _ h=>h) O1).mono ?_⟩;rintro _ U2⟨⟨ra,rl,rc,rfl,P,an⟩,ba⟩-
  conv=>whnf
  intro K cf;refine⟨_,.refl _,rfl,HK (vs:=[.slice ra rl rc,.slice none 0 0]) rfl (by simp[Value.single]) ?_⟩;have bh:=Z2 (U:=U2) K (.cells #[.slice ra rl rc,.slice none 0 0] 38);have au:U1.lg U2:=a3.trans ba.lg;refine⟨_,(hB.lg (au.trans bh)).sees3 (o:=1) rfl,?_⟩;have W:U.frz.lg U2.frz:=ax.lg.frz2.trans au.frz2
  refine⟨Nat×Value,λ y=>[(1,.pointer (some ⟨B,0,none⟩)),(2,.pointer (some ⟨Q,0,none⟩)),(3,.pointer (some ⟨K,0,none⟩)),(13,.slice h.ca h.cl h.cc),(14,.int .i64 h.cl),(15,.int .i64 y.1)],
   λ y U'=>U2.frz.lg U'/\(∃(H:List (Cs×ZK))(A R:List Qw),H.map (·.1)=b.cs.take y.1/\(∀p∈H,WY U' p)/\Jo 44 4 y.2 (H.flatMap Q_) A/\R.Perm (H.flatMap (·.2.F))/\U'.M=A++(R++([.obj K (.cells [.slice ra rl rc,y.2].toArray 38 (0,0)),.obj Q (.cells #[.slice none 0 0,.slice none 0 0] 92 (0,0))]++U.M)))/\y.1<=h.cl,
   λ y=>h.cl-y.1,(0,.slice none 0 0),T1,⟨⟨λ _ _ h=>h,⟨_,(append_nil _).symm⟩,rfl⟩,⟨[],[],[],rfl,S1,.nil,.refl _,?_⟩,O1⟩,?_⟩
  .show _::U2.M=_;rw[ba.own];show _::_::U1.M=_;rw[ax.own];rfl
  rintro⟨i,v⟩f U3⟨L,⟨H,A,R,N,am,E,hR,V⟩,hi⟩;simp only at N E V hi;obtain⟨sa,sl,sc,rfl,cp⟩:=E.src;have bu:Z7 ((i:Int)+1):=I1
  have bw:H.length=i:=by
   have:=congrArg List.length N;rw[length_map,length_take]at this;omega
  repeat refine⟨rfl,?_⟩
  conv=>whnf
  apply Qg<;>intro hc
  .have hlt:i<h.cl:=by simpa using hc
   obtain⟨ad,c,ga,gl,gc,aa,al,ac,hx,br,b7,bx,hg,cj,ha,b8,av⟩:=hb.case hlt;obtain⟨cg,bt,ch⟩:=hs.gs c av;have b4:=hg.1;have b1:=ha.1;refine⟨ad,i,⟨br,rfl,hlt⟩,_,⟨rfl,(bx.lg W).lg L⟩,?_⟩
   conv=>whnf
   intro b5 bs;refine⟨_,.refl _,rfl,Zv (vs:=[.string c.nm,.int .i64 c.ag,.slice ga gl gc,.slice aa al ac]) bs rfl (by simp[Value.single]) λ U4 ay bq=>?_⟩;have ae:=ay.own.trans V;have a1:=L.trans ay.lg;have ap:U.frz.lg U4.frz:=W.trans a1.frz2;have bc:=hb.cn c av
   let Ub:Qa T:={ U4 with M:=R++([.obj K (.cells [.slice ra rl rc,.slice sa sl sc].toArray 38 (0,0)),.obj Q (.cells #[.slice none 0 0,.slice none 0 0] 92 (0,0))]++U.M) }
   have bo:Ub.lg U4:=⟨λ _ _ h=>h,⟨A,ae⟩,rfl⟩;have bi:Je Ub ⟨K,0,none⟩ [.slice ra rl rc,.slice sa sl sc]:=Q9 R rfl;have bb:Zi Ub b5 #[.string c.nm,.int .i64 c.ag,.slice ga gl gc,.slice aa al ac]:=bq
   conv=>whnf
   intro b0 ai
   refine Is (mu:=[1005]) (ops:=GY Tryz.f115 5) (id:=5) ai Ub bo [3,4] [[0,1,2,3,4]] [5,6,7] Eu MT Qe K1 K1 K1 K1 K1
    (λ f' a5 U'=>a5=[]/\∃(z:Nat)(k:ZK),Xu f' [(1,.pointer (some ⟨B,0,none⟩)),(2,.pointer (some ⟨Q,0,none⟩)),(3,.pointer (some ⟨K,0,none⟩)),(13,.slice h.ca h.cl h.cc),(14,.int .i64 h.cl),(15,.int .i64 i),(20,.slice sa sl sc),(23,.slice (some ⟨z,0,none⟩) 1 1)]/\WY U' (c,k)/\Zi U' z (Q_ (c,k)).toArray/\U4.frz.lg U'/\U'.M=A++(k.F++(R++([.obj K (.cells [.slice ra rl rc,.slice sa sl sc].toArray 38 (0,0)),.obj Q (.cells #[.slice none 0 0,.slice none 0 0] 92 (0,0))]++U.M)))) ?_ ?_
   .intro l hl;simp only[Eu,mem_cons,not_mem_nil,or_false]at hl;subst hl;refine⟨_,bi.cell (i:=1) rfl,_,⟨rfl,bb.rd⟩,?_⟩;refine⟨λ v U'=>∃k:ZK,v=.agg (Q_ (c,k)).toArray/\WY U' (c,k)/\U4.frz.lg U'/\U'.M=A++(k.F++(R++([.obj K (.cells [.slice ra rl rc,.slice sa sl sc].toArray 38 (0,0)),.obj Q (.cells #[.slice none 0 0,.slice none 0 0] 92 (0,0))]++U.M))),λ v U1 U2⟨k,e,hk,hl,V⟩w=>⟨k,e,hk.lg w.lg.frz2,hl.trans w.lg,w.own.trans V⟩,λ v U'⟨k,e,hk,hl,V⟩=>⟨hl.imm,⟨A++k.F,by rw[V];simp[Ub]⟩,hl.tok⟩,λ U' hC=>?_,λ v hv=>?_⟩
    .have w:=hC;refine⟨Tg.any,(DJ c ga aa gl gc al ac (hg.lg (ap.trans w.lg.frz2)) O1 (ha.lg (ap.trans w.lg.frz2)) O1 bt bc).mono ?_⟩;rintro v U''⟨⟨k,e,hk,bn⟩,hI,ht⟩-
     have hp:U''.M.Perm (A++(k.F++(R++([.obj K (.cells [.slice ra rl rc,.slice sa sl sc].toArray 38 (0,0)),.obj Q (.cells #[.slice none 0 0,.slice none 0 0] 92 (0,0))]++U.M)))):=by
      rw[bn,w.own,ae];exact perm_append_comm_assoc _ _ _
     exact⟨_,Wp hp,k,e,hk.lg ⟨λ _ _ h=>h,⟨[],rfl⟩,rfl⟩,⟨λ x o hx=>hI x o (w.imm x o hx),⟨_,(append_nil _).symm⟩,ht.trans w.tok⟩,rfl⟩
    obtain⟨_,⟨cq,ct,cr,kv,kF⟩,rfl,bv,-⟩:=hv;obtain⟨a0,l0,c0,e0,-⟩:=bv.af.src;obtain rfl:kv=.slice a0 l0 c0:=e0;refine⟨λ v U'=>∃(z:Nat)(k':ZK),v=.slice (some ⟨z,0,none⟩) 1 1/\WY U' (c,k')/\Zi U' z (Q_ (c,k')).toArray/\U4.frz.lg U'/\U'.M=A++(k'.F++(R++([.obj K (.cells [.slice ra rl rc,.slice sa sl sc].toArray 38 (0,0)),.obj Q (.cells #[.slice none 0 0,.slice none 0 0] 92 (0,0))]++U.M))),λ v U1 U2⟨z,k,e,hk,G,hl,V⟩w=>⟨z,k,e,hk.lg w.lg.frz2,G.le w,hl.trans w.lg,w.own.trans V⟩,λ v U'⟨z,k,e,hk,G,hl,V⟩=>⟨hl.imm,⟨A++k.F,by rw[V];simp[Ub]⟩,hl.tok⟩,λ U' hC=>?_,λ v hv=>?_⟩
    .obtain⟨k',e,az,hl',ab⟩:=hC
     conv=>whnf
     intro z bd;refine Zh bd λ U'' w G=>⟨_,.refl _,z,k',rfl,az.lg w.lg.frz2,?_,hl'.trans w.lg,w.own.trans ab⟩;have e':=toArray_inj (Value.agg.inj e);rw[<- e'];exact G
    obtain⟨_,z,k2,rfl,-⟩:=hv
    conv=>whnf
    rintro U'⟨a4,k',e,az,G,hl',ab⟩;obtain rfl:z=a4:=by simpa using e
    exact⟨rfl,z,k',T1,az,G,hl',ab⟩
   rintro f' a5 U5⟨rfl,z,k,be,hk,G,a2,a9⟩;rw[<- be.ovr];clear be;have bg:(H.flatMap Q_).length=i*4:=by rw[Qz Zz,bw]
   conv=>whnf
   refine Wn (v:=.slice sa sl sc) (cs:=H.flatMap Q_) (new:=Q_ (c,k)) (M₀:=k.F++(R++([.obj K (.cells [.slice ra rl rc,.slice sa sl sc].toArray 38 (0,0)),.obj Q (.cells #[.slice none 0 0,.slice none 0 0] 92 (0,0))]++U.M))) If rfl rfl (by rw[a9];exact E _) (.inr ⟨_,rfl,G.rd⟩) rfl (by
    have:=hk.af.src;obtain⟨a0,l0,c0,e0,-⟩:=this;simp only[Q_];rw[show k.v=.slice a0 l0 c0 from e0];simp[Value.single]) (by rw[bg,Zz];omega) λ v' M' bp _=>?_
   obtain⟨aw,ab,ao⟩:=bp.split;obtain⟨ta,tl,tc,rfl,-⟩:=ao.src;have bl:({ U5 with M:=M' }:Qa T).M=(aw++(k.F++R))++.obj K (.cells [.slice ra rl rc,.slice sa sl sc].toArray 38 (0,0))::.obj Q (.cells #[.slice none 0 0,.slice none 0 0] 92 (0,0))::U.M:=by show M'=_;rw[ab];simp
   refine⟨rfl,WM (i:=1) (v:=.slice ta tl tc) _ bl (by show 1<2;omega) rfl λ U6 a7 bj ah=>?_⟩;have ah:U6.M=aw++((k.F++R)++([.obj K (.cells [.slice ra rl rc,.slice ta tl tc].toArray 38 (0,0)),.obj Q (.cells #[.slice none 0 0,.slice none 0 0] 92 (0,0))]++U.M)):=by rw[ah];simp
   have aq:U5.frz.lg U6.frz:=⟨λ x o hx=>by show U6.I x=_;rw[a7];exact hx,⟨[],rfl⟩,bj⟩;have bf:U4.frz.lg U6.frz:=a2.frz2.trans aq;have aj:U3.frz.lg U6.frz:=ay.lg.frz2.trans bf
   conv=>whnf
   intro a' ak;refine⟨by rw[ak.size,ai.size],_,ak.get,?_⟩;rw[ak.ds];clear ak ai;refine⟨bu,rfl,(i+1,.slice ta tl tc),T1,⟨⟨λ x o hx=>aj.imm x o (L.imm x o hx),⟨_,(append_nil _).symm⟩,aj.tok.trans L.tok⟩,⟨H++[(c,k)],aw,k.F++R,?_,?_,?_,?_,ah⟩,by show i+1<=h.cl;omega⟩,L1⟩
   .rw[map_append,N,Wf hx];rfl
   .intro p hp;rcases mem_append.1 hp with hp|hp
    .exact(am p hp).lg aj
    .rw[mem_singleton.1 hp];exact hk.lg aq
   .rw[flatMap_append];simpa using ao
   .rw[flatMap_append];simp only[flatMap_cons,flatMap_nil,append_nil];exact(Perm.append_left k.F hR).trans perm_append_comm
  .have hge:i=b.cs.length:=by simp at hc;omega
   subst hge;rw[take_length]at N;have bm:U3.M=(A++R)++.obj K (.cells [.slice ra rl rc,.slice sa sl sc].toArray 38 (0,0))::.obj Q (.cells #[.slice none 0 0,.slice none 0 0] 92 (0,0))::U.M:=by rw[V];simp
   have a8:U3.M=(A++R++[.obj K (.cells [.slice ra rl rc,.slice sa sl sc].toArray 38 (0,0))])++.obj Q (.cells #[.slice none 0 0,.slice none 0 0] 92 (0,0))::U.M:=by rw[V];simp
   refine⟨_,⟨rfl,Q9 _ bm⟩,rfl,Wd (vs:=[.slice ra rl rc,.slice sa sl sc]) _ a8 rfl (by simp[Value.single]) λ U4 a6 bz ae=>?_⟩;have X:U3.frz.lg U4.frz:=⟨λ x o hx=>by show U4.I x=_;rw[a6];exact hx,⟨[],rfl⟩,bz⟩;refine⟨_,⟨rfl,Q9 _ ae⟩,?_⟩
   conv=>whnf
   exact⟨⟨ra,rl,rc,sa,sl,sc⟩,H,A,R,[_,_],rfl,N,λ p hp=>(am p hp).lg X,E,by rw[ae];simp;exact⟨rfl,rfl⟩,hR,an.lg (L.frz2.trans X) λ _ _ h=>h,P,λ x o hx=>X.imm x o (L.imm x o (W.imm x o hx)),X.tok.trans (L.tok.trans W.tok)⟩
 refine bk.post λ v U'⟨Z,H,A,R,Y,hv,N,am,E,V,hR,an,P,hI,ht⟩=>?_;have b6:=an.1;refine⟨{ U' with M:=A++(R++U.M) },Zx (by rw[V];exact(Sublist.refl A).append ((Sublist.refl R).append (sublist_append_right Y U.M))),⟨Z,hv,⟨⟨H,A,N,λ p hp=>(am p hp).lg ⟨λ _ _ h=>h,⟨[],rfl⟩,rfl⟩,E,Perm.append_left A (Perm.append_right _ hR)⟩,an.lg ⟨λ _ _ h=>h,⟨[],rfl⟩,rfl⟩ λ _ _ h=>h,O1,hb.rn,P⟩⟩,hI,ht⟩
end Go.Proofs
namespace Go.TM
variable{T:Type}{P:Program}{S:Sys P T}{U:Qa T}
def Xg(l:List Int):Prop:=l.Pairwise (·<=·)
def vU{l:List Int}(h:Xb l l.length):Xg l:=by
 rw[Xg,pairwise_iff_getElem];intro i j w f b;exact h i j _ _ b f (getElem?_eq_getElem w) (getElem?_eq_getElem f)
def PF(n x:Int):∀l:List Int,x∈ZB n l↔x=n\/x∈l
 |[]=>by simp[ZB]
 |y::l=>by
  unfold ZB;split
  .simp only[mem_cons,PF n x l];constructor
   .rintro(h|h|h) <;> simp[h]
   .rintro(h|h|h) <;> simp[h]
  .simp only[mem_cons]
def S8(n:Int):∀l:List Int,Xg l->Xg (ZB n l)
 |[],_=>by simp[ZB,Xg]
 |y::l,h=>by
  unfold Xg at h;rw[pairwise_cons]at h;unfold ZB;split
  .rename_i hlt;unfold Xg;rw[pairwise_cons];refine⟨λ x hx=>?_,S8 n l h.2⟩;rcases(PF n x l).1 hx with rfl|hx
   .omega
   .exact h.1 x hx
  .rename_i hge;unfold Xg;rw[pairwise_cons,pairwise_cons];refine⟨λ x hx=>?_,h⟩;rcases mem_cons.1 hx with rfl|hx
   .omega
   .have:=h.1 x hx;omega
def VS(n:Int):∀l:List Int,(ZB n l).Perm (l++[n])
 |[]=>by simp[ZB]
 |y::l=>by
  unfold ZB;split
  .exact(VS n l).cons y
  .exact(perm_append_comm (l₁:=[n]) (l₂:=y::l))
def kQ{n:Int}{l l':List Int}(h:Xg l)(h1:l'.Perm (l++[n]))(h2:Xb l' l'.length):l'=ZB n l:=
 Perm.eq_of_pairwise (le:=(·<=·)) (λ a b _ _ h1 h2=>O1) (vU h2) (S8 n l h) (h1.trans (VS n l).symm)
def Dk{α:Type}{l:List α}{i:Nat}{a:α}(h:l[i]?=some a):∃X Y,l=X++a::Y/\X.length=i/\∀a',l.set i a'=X++a'::Y:=by
 obtain⟨b,rfl⟩:=List.getElem?_eq_some_iff.1 h;refine⟨l.take i,l.drop (i+1),?_,S3,λ a'=>?_⟩
 .rw[getElem_cons_drop,take_append_drop]
 .rw[set_eq_take_append_cons_drop,if_pos b]
end Go.TM
namespace Go.Proofs
open Go.TM
variable{T:Type}{S:TM.Sys prog T}{U:Qa T}
attribute [local irreducible] Qb Zm Wo
def zO(h:BH)(b:Bk)(M₀:List Qw)(ho:QR U h b M₀)(k:Nat)(n:Int)(hk:k<b.cs.length)(ah:Xg (b.cas k).af)(bb:(b.cas k).af.length<=11) :
  Qb S 116 #[h.v,.agg #[.int .i64 k,.int .i64 n]] (λ _ U'=>QR U' h (b.sty ((k:Int),n)) M₀/\(∀x o,U.I x=some o->U'.I x=some o)/\U'.tok=U.tok) U:=by
 obtain⟨ps,A,ap,an,a4,hM⟩:=ho.ex;have bl:k<ps.length:=by rw[<- ap,length_map]at hk;exact hk
 obtain⟨p,hp⟩:∃p,ps[k]?=some p:=⟨_,getElem?_eq_getElem bl⟩;obtain⟨X,Y,rfl,hX,bd⟩:=Dk hp;obtain⟨c,W,aa,Z,kv,V⟩:=p
 have ad:b.cas k=c:=by
  have:=congrArg (λ l=>l[k]?) ap;simp only[getElem?_map,hp]at this;simp[Bk.cas,getD_eq_getElem?_getD,<- this]
 rw[ad]at ah bb;have ao:=an _ (mem_of_getElem? hp);obtain⟨a0,l0,c0,e0,bm⟩:=ao.af.src;obtain rfl:kv=.slice a0 l0 c0:=e0;have hF:Jo 3 1 (.slice a0 l0 c0) (c.af.map λ n=>.int .i64 n) V:=ao.af;obtain⟨cb,cc,av,au,ai,H,a8,K,rfl,a7⟩:=a4.blk (by simp[Q_]);have bk:h.cl=av:=by have:=Value.slice.inj ai;exact this.2.1
 have al:h.ca=some ⟨cb,0,none⟩:=by have:=Value.slice.inj ai;exact this.1
 have ac:h.cc=au:=by have:=Value.slice.inj ai;exact this.2.2
 have ag:k<h.cl:=by
  rw[Qz Zz]at H;omega
 have L:U.M.Perm (V++(.obj cb (.cells cc.toList.toArray 44 (0,0))::((X.flatMap (·.2.F)++Y.flatMap (·.2.F))++M₀))):=by
  refine hM.trans ?_;rw[flatMap_append,flatMap_cons];show Perm (.obj cb (.cells cc 44 (0,0))::(X.flatMap (·.2.F)++(V++Y.flatMap (·.2.F))++M₀)) _;refine Perm.trans (Perm.cons _ ?_) perm_middle.symm;rw[<- append_assoc V];refine Perm.append_right _ ?_;rw[<- append_assoc,<- append_assoc];exact Perm.append_right _ perm_append_comm
 have am:∀j,j<4->cc.toList[k*4+j]?=(Q_ (c,⟨W,aa,Z,.slice a0 l0 c0,V⟩))[j]?:=by
  intro j hj;have h1:=P5 Zz hp hj;have h2:∃x,(Q_ (c,(⟨W,aa,Z,.slice a0 l0 c0,V⟩:ZK)))[j]?=some x:=⟨_,getElem?_eq_getElem (by rw[Zz];exact hj)⟩;obtain⟨x,hx⟩:=h2;rw[hx]at h1 ⊢;rw[Array.getElem?_toList];exact a7 _ _ h1
 refine Qb.shift (Wp L) ?_;generalize aq:(X.flatMap (·.2.F)++Y.flatMap (·.2.F))++M₀=rest at L ⊢;generalize a2:({ U with M:=V++(.obj cb (.cells cc.toList.toArray 44 (0,0))::rest) }:Qa T)=U₀;have ay:U₀.M=V++(.obj cb (.cells cc.toList.toArray 44 (0,0))::rest):=by rw[<- a2]
 have br:U.frz.lg U₀.frz:=by rw[<- a2];exact⟨λ _ _ h=>h,⟨[],rfl⟩,rfl⟩
 have bf:Qb S 116 #[h.v,.agg #[.int .i64 k,.int .i64 n]] (λ _ U'=>(∃v' N,Jo 3 1 v' ((ZB n c.af).map λ n=>.int .i64 n) N/\v'.single=true/\U'.M=N++(.obj cb (.cells (cc.setIfInBounds (k*4+3) v') 44 (0,0))::rest))/\(∀x o,U₀.I x=some o->U'.I x=some o)/\U'.tok=U₀.tok) U₀:=by
  refine Qb.of (args:=[_,_]) FP Qe S1 ?_
  repeat refine⟨rfl,?_⟩
  conv=>whnf
  intro B U1 ak hB;have hB:Zi U1 B #[.slice h.ra h.rl h.rc,.slice h.ca h.cl h.cc]:=hB
  conv=>whnf
  intro b3 U2 P G;have G:Zi U2 b3 #[.int .i64 k,.int .i64 n]:=G;have hB:=hB.le P;have ab:U2.M=V++.obj cb (.cells cc.toList.toArray 44 (0,0))::rest:=(ak.trans P).own.trans ay;have bn:=Q9 _ ab
  have bp:U2.sees (((Addr.mk cb 0 none).add (k*4)).add 3) (.slice a0 l0 c0):=by
   have:=bn (k*4+3) (.slice a0 l0 c0) (am 3 O1);rw[Qo]at this;rw[Qo,Qo,Nat.add_assoc];exact this
  refine⟨_,hB.sees3 (o:=1) rfl,_,G.sees3 (o:=0) rfl,⟨cb,0,none⟩,k,⟨al,rfl,ag⟩,_,bp,_,G.sees3 (o:=1) rfl,λ v U'=>∃w,v=.slice (some ⟨w,0,none⟩) 1 1/\Zi U' w #[.int .i64 n],λ v U1 U2⟨w,e,hb⟩ba=>⟨w,e,hb.le ba⟩,λ U' ba hC=>?_,λ v hv=>?_⟩
  .conv=>whnf
   intro w a9;exact Zh a9 λ U3 E hb=>⟨_,.refl _,⟨w,rfl,hb⟩,E⟩
  obtain⟨_,-,-,w,rfl,-⟩:=hv
  conv=>whnf
  intro U3 E hC;obtain⟨-,bs,bg,a5⟩:=hC;cases bg;have az:=E.own.trans ab;have bt:c.af.length=l0:=by simpa using bm
  conv=>whnf
  refine Wn (v:=.slice a0 l0 c0) (cs:=c.af.map λ n=>.int .i64 n) (new:=[.int .i64 n]) (M₀:=.obj cb (.cells cc.toList.toArray 44 (0,0))::rest) H2 rfl rfl (by rw[az];exact hF _) (.inr ⟨_,rfl,a5.rd⟩) rfl (by simp[Value.single]) S3 λ v' M' Q _=>?_;have Q:Acc 3 1 v' ((c.af++[n]).map λ n=>.int .i64 n) M' (.obj cb (.cells cc.toList.toArray 44 (0,0))::rest):=by simpa using Q
  obtain⟨ta,tc,rfl,-⟩:=Sv (U:={ U3 with M:=M' }) Q;refine⟨UU.any,(zN (U:={ U3 with M:=M' }) _ (c.af++[n]) _ Q S3).mono ?_⟩;rintro _ U4⟨aw,bq,l',bc,bo,a3⟩-;have hl':l'=ZB n c.af:=kQ ah bc (by rw[bc.length_eq];exact bo);subst hl';obtain⟨N,bj,aj⟩:=a3.split;have z:∀x o,U2.I x=some o->U4.I x=some o:=λ x o hx=>aw x o (E.imm x o hx);have bh:=hB.imI z;have a6:=G.imI z;refine⟨_,bh.sees3 (o:=1) rfl,_,a6.sees3 (o:=0) rfl,⟨cb,0,none⟩,k,⟨al,rfl,ag⟩,rfl,?_⟩;rw[show((Addr.mk cb 0 none).add (k*4)).add 3=(Addr.mk cb 0 none).add (k*4+3) by rw[Qo,Qo,Qo,Nat.add_assoc]];refine WM (i:=k*4+3) (v:=.slice ta (c.af++[n]).length tc) N bj (by simp;rw[K,<- ac];omega) rfl λ U5 ax be a1=>?_;refine⟨⟨_,N,aj,rfl,by rw[a1]⟩,λ x o hx=>?_,?_⟩
  .rw[ax];exact z x o ((ak.trans P).imm x o hx)
  .rw[be];exact bq.trans (E.tok.trans (ak.trans P).tok)
 refine bf.mono ?_;rintro v U'⟨⟨v',N,aj,bu,bi⟩,hI,ht⟩;have hz:U.frz.lg U'.frz:=br.trans ⟨hI,⟨[],rfl⟩,ht⟩;refine⟨⟨⟨X++({ c with af:=ZB n c.af },⟨W,aa,Z,v',N⟩)::Y,[.obj cb (.cells (cc.setIfInBounds (k*4+3) v') 44 (0,0))],?_,?_,?_,?_⟩,ho.rs.lg hz λ _ _ h=>h,ho.rl,ho.rn,ho.rc⟩,hz.imm,hz.tok⟩
 .show _=(b.cs.set (k:Int).toNat { b.cas (k:Int).toNat with af:=ZB n (b.cas (k:Int).toNat).af });rw[Int.toNat_natCast,ad,<- ap,<- map_set (f:=λ p:Cs×ZK=>p.1) (a:=({ c with af:=ZB n c.af },(⟨W,aa,Z,v',N⟩:ZK)))];rw[bd]
 .intro q hq;rw[mem_append,mem_cons]at hq;rcases hq with hq|rfl|hq
  .exact(an q (by simp[hq])).lg hz
  .have:=ao.lg hz
   exact⟨this.gs,this.gl,aj,this.nm,by
    show(ZB n c.af).length<=_;rw[(VS n c.af).length_eq];simp;omega⟩
  .exact(an q (by simp[hq])).lg hz
 .rw[al,bk,ac];refine .ofBlk ?_ a8 (by simp[K]) λ i x hx=>?_
  .rw[Qz Zz]at H ⊢;simpa using H
  .have hlen1:(X.flatMap Q_).length=k*4:=by rw[Qz Zz,hX]
   rw[Array.getElem?_setIfInBounds];rw[flatMap_append,flatMap_cons]at hx;have ae:=a7 i;rw[flatMap_append,flatMap_cons]at ae;by_cases e:k*4+3=i
   .subst e;rw[if_pos rfl,if_pos (by rw[K];omega)];rw[getElem?_append_right O1,hlen1,Nat.add_sub_cancel_left,getElem?_append_left (by rw[Zz];omega)]at hx;exact hx
   .rw[if_neg e];refine ae x ?_;by_cases h1:i<k*4
    .rw[getElem?_append_left O1]at hx ⊢;exact hx
    .rw[getElem?_append_right O1,hlen1]at hx ⊢;by_cases h2:i-k*4<4
     .rw[getElem?_append_left (by rw[Zz];exact h2)]at hx ⊢;have:i-k*4=0\/i-k*4=1\/i-k*4=2:=O1
      rcases this with e|e|e <;> rw[e]at hx ⊢ <;> exact hx
     .rw[getElem?_append_right (by rw[Zz];omega)]at hx ⊢;exact hx
 .rw[bi,<- aq,flatMap_append,flatMap_cons];show Perm _ (.obj cb _::(X.flatMap (·.2.F)++(N++Y.flatMap (·.2.F))++M₀));refine Perm.trans perm_middle (Perm.cons _ ?_);rw[<- append_assoc N];refine Perm.append_right _ ?_;rw[<- append_assoc,<- append_assoc];exact Perm.append_right _ perm_append_comm
end Go.Proofs
namespace Go.TM
variable{T:Type}{P:Program}{S:Sys P T}{U U':Qa T}
def JT(U:Qa T)(v:Value)(l:List Int):Prop:=∃a cap,v=.slice a l.length cap/\Z6 U a l.length l/\l.length<=cap
def JT.lg{v:Value}{l:List Int}(h:JT U v l)(hl:U.lg U'):JT U' v l:=let ⟨a,c,e,h,r⟩:=h;⟨a,c,e,h.lg hl,r⟩
def JT.nil:JT U (.slice none 0 0) []:=⟨none,0,rfl,⟨rfl,λ i x h=>by simp at h⟩,Nat.le_refl _⟩
def JT.v{v:Value}{l:List Int}(h:JT U v l):Jw U v l:=let ⟨a,c,e,h,_⟩:=h;⟨a,c,e,h⟩
def Gx(S:Sys P T)(g:FuncId)(first f:Array Value){α:Type}(enc:α->List Value)(n:Nat)(B:List (List α))(I:Nat->Qa T->Prop)(E:Qa T->Prop)(U₀:Qa T):Prop:=
 ∀(k:Nat)(p:List α)(a:Option Addr)(cap:Nat)(U:Qa T)(X h:List Qw),B[k]?=some p->U₀.frz.lg U.frz->Q7 U.frz a p.length n p (λ x vs=>vs=enc x)->((∀w,a=some w->w.spot=none)/\p.length<=cap)->U.M=X++h->I k ⟨U.I,h,U.tok⟩ ->
  Qb S g (first.toList++[Value.slice a p.length cap]++f.toList).toArray (λ v U'=>(v=.bool false/\U.frz.lg U'.frz/\∃b,U'.M=X++b/\I (k+1) ⟨U'.I,b,U'.tok⟩)\/(v=.bool true/\∃z b,U'.M=z++b/\E ⟨U'.I,b,U'.tok⟩/\∀x o,U.I x=some o->U'.I x=some o)) U
def Src.lg'{a:Option Addr}{cs:List Value}(h:Src U a cs)(k:U.lg U'):Src U' a cs:=h.imp id λ⟨b,e,r⟩=>⟨b,e,r.lg k⟩
def HC{α:Type}{enc:α->List Value}{n:Nat}(z:∀x,(enc x).length=n){a:Option Addr}{l:List α}(h:Src U a (l.flatMap enc))(w:∀b,a=some b->b.spot=none)(f:0<n):Q7 U a l.length n l λ x vs=>vs=enc x:=by
 refine⟨rfl,λ i x hx=>?_⟩
 have E:(l.flatMap enc)≠[]:=by
  intro G;have:=Qz z l;rw[G]at this;have hl:=(List.getElem?_eq_some_iff.1 hx).1;have h2:0<l.length*n:=Nat.mul_pos O1 f;simp at this;omega
 rcases h with⟨_,B⟩|⟨b,rfl,I⟩
 .exact absurd B E
 .refine⟨b,enc x,rfl,w b rfl,rfl,z x,λ j v F=>?_⟩;have H:j<n:=by have:=(List.getElem?_eq_some_iff.1 F).1;rw[z]at this;exact this
  have h5:=I (i*n+j) v (by rw[P5 z hx H];exact F);obtain⟨bb,K,L⟩:=b;cases w ⟨bb,K,L⟩ rfl;rw[Qo]at h5;rw[Qo,Qo,Nat.add_assoc];exact h5
end Go.TM
namespace Go.Proofs
open Go.TM
variable{T:Type}{S:TM.Sys prog T}{U:Qa T}
attribute [local irreducible] Qb Zm Wo
def VZ:X6 prog 68 75 2:=.of K1
def pr:prog.underlying 68=some (.slice 75):=K1
def Zy(n:Int):List Value:=[.int .i64 n]
def E9:List (List (Nat×St)):=[[(0,.xl 26 5),(0,.m 27 0),(0,.xo 28 0 4),(0,.xl 29 28),(0,.m 30 9),(0,.xi 31 2 29 30),(0,.xd 32 2 31),(0,.m 35 9),(0,.xa 36 35),(2,.d 33 (.bsl 75 1 #[(.int .i64 0),(.int .i64 0)] [(0,2,(.t 32))])),(2,.xz 34 27 33 68)]]
def zH:List St:=[.d 37 (.call (.t 26) #[(.t 34),(.t 36)])]
def E8:List (List (Nat×St)):=[[(0,.xl 26 5),(0,.m 27 0),(0,.xo 28 0 4),(0,.xl 29 28),(0,.m 30 9),(0,.xi 31 1 29 30),(0,.xl 32 31),(0,.m 35 9),(0,.xa 36 35),(2,.d 33 (.bsl 3 1 #[(.int .i64 0)] [(0,1,(.t 32))])),(2,.xz 34 27 33 29)]]
def zG:List St:=[.d 37 (.call (.t 26) #[(.t 34),(.t 36)])]
def encII(p:Int×Int):List Value:=[.int .i64 p.1,.int .i64 p.2]
def Ma(a:Option Addr)(cap:Nat)(l:List (Int×Int))(V:Src U a (l.flatMap encII))(T:l.length<=1000) :
  Qb S 114 #[.slice a l.length cap] (λ v U'=>(∃a' cap',v=.slice a' l.length cap'/\Q7 U'.frz a' l.length 2 l (λ x vs=>vs=encII x)/\(∀b,a'=some b->b.spot=none)/\l.length<=cap')/\U.le U') U:=by
 have z:(l.flatMap encII).length=l.length*2:=Qz (f:=encII) (λ _=>rfl) l
 have P:∀w∈l.flatMap encII,w.single=true:=by
  intro w hw;obtain⟨x,_,hx⟩:=mem_flatMap.1 hw;simp[encII]at hx
  first|(rcases hx with rfl|rfl <;> rfl)|(subst hx;rfl)
 have L:Qb S 114 #[.slice a l.length cap] (λ v U'=>Acc 75 2 v (l.flatMap encII) U'.M U.M/\(∀x o,U.I x=some o->U'.I x=some o)/\U'.tok=U.tok) U:=by
  refine Qb.of (args:=[_]) FN Qe S1 ?_
  conv=>whnf
  refine K0 pr rfl ?_
  conv=>whnf
  apply Qg<;>intro Q
  .have ha:a=none:=by simpa using Q
   subst ha
   have:l=[]:=by
    rcases V with⟨_,E⟩|⟨b,E,_⟩
    .cases l with
     |nil=>rfl
     |cons x r=>simp[encII]at E
    .cases E
   subst this
   repeat refine⟨rfl,?_⟩
   conv=>whnf
   exact⟨.nil,λ _ _ h=>h,rfl⟩
  .obtain⟨b,rfl⟩:∃b,a=some b:=by cases a with|none=>cases Q|some b=>exact⟨b,rfl⟩
   conv=>whnf
   intro N Y;refine⟨_,.refl _,?_⟩
   have B:Src (U.put N (.cells #[] 75)) (some b) (l.flatMap encII):=by
    rcases V with⟨E,_⟩|⟨W,e,Z⟩
    .cases E
    .cases e;exact .inr ⟨_,rfl,Z.lg (Z2 N _)⟩
   conv=>whnf
   refine Wn (v:=.slice (some ⟨N,0,none⟩) 0 0) (cs:=[]) (new:=l.flatMap encII) (M₀:=U.M) VZ rfl rfl .empty B z P (by rw[z,length_nil];omega) λ v' M' F _=>?_;obtain⟨ta,tl,tc,rfl,-,-⟩:=Acc.src (U:={ U with M:=M' }) F
   repeat refine⟨rfl,?_⟩
   conv=>whnf
   exact⟨by simpa using F,λ _ _ h=>h,rfl⟩
 refine L.sep λ v U' B⟨ha,X,ht⟩=>?_;obtain⟨U'',k1,k2,a',K,cap',rfl,hl',H,G,_⟩:=ha.freeze B X ht;have:l.length=K:=by have e:=z.symm.trans hl';omega
 subst this;exact⟨U'',k1,⟨a',cap',rfl,HC (enc:=encII) (n:=2) (λ _=>rfl) H G D1,G,ha.room⟩,k2⟩
structure GP(U:Qa T)(l:List (Int×Int))(many:Nat)(g:FuncId)(first capt:Array Value)(bm bt bl bn:Nat):Prop where
 m:Zi U bm #[.int .i64 many]
 t:Zi U bt #[.func (.func g) first capt]
 l:∃a cap,Zi U bl #[.slice a l.length cap]/\Q7 U.frz a l.length 2 l (λ x vs=>vs=encII x)
 n:Zi U bn #[.func (.func 113) #[] #[.pointer (some ⟨bm,0,none⟩),.pointer (some ⟨bt,0,none⟩),.pointer (some ⟨bl,0,none⟩),.pointer (some ⟨bn,0,none⟩)]]
def GP.lg{U':Qa T}{l:List (Int×Int)}{f:Nat}{g:FuncId}{first b:Array Value}{bm z bl w:Nat}(h:GP U l f g first b bm z bl w)(k:U.frz.lg U'.frz):GP U' l f g first b bm z bl w:=
 ⟨h.m.imI k.imm,h.t.imI k.imm,let ⟨a,c,h1,h2⟩:=h.l;⟨a,c,h1.imI k.imm,h2.lg k λ _ _ h=>h⟩,h.n.imI k.imm⟩
def M9(a:Option Addr)(cap:Nat)(l:List Int)(V:Src U a (l.flatMap Zy))(T:l.length<=1000) :
  Qb S 34 #[.slice a l.length cap] (λ v U'=>(∃a' cap',v=.slice a' l.length cap'/\Q7 U'.frz a' l.length 1 l (λ x vs=>vs=Zy x)/\(∀b,a'=some b->b.spot=none)/\l.length<=cap')/\U.le U') U:=by
 have z:(l.flatMap Zy).length=l.length*1:=Qz (f:=Zy) (λ _=>rfl) l
 have P:∀w∈l.flatMap Zy,w.single=true:=by
  intro w hw;obtain⟨x,_,hx⟩:=mem_flatMap.1 hw;simp[Zy]at hx
  first|(rcases hx with rfl|rfl <;> rfl)|(subst hx;rfl)
 have L:Qb S 34 #[.slice a l.length cap] (λ v U'=>Acc 3 1 v (l.flatMap Zy) U'.M U.M/\(∀x o,U.I x=some o->U'.I x=some o)/\U'.tok=U.tok) U:=by
  refine Qb.of (args:=[_]) Pz Qe S1 ?_
  conv=>whnf
  refine K0 Pv rfl ?_
  conv=>whnf
  apply Qg<;>intro Q
  .have ha:a=none:=by simpa using Q
   subst ha
   have:l=[]:=by
    rcases V with⟨_,E⟩|⟨b,E,_⟩
    .cases l with
     |nil=>rfl
     |cons x r=>simp[Zy]at E
    .cases E
   subst this
   repeat refine⟨rfl,?_⟩
   conv=>whnf
   exact⟨.nil,λ _ _ h=>h,rfl⟩
  .obtain⟨b,rfl⟩:∃b,a=some b:=by cases a with|none=>cases Q|some b=>exact⟨b,rfl⟩
   conv=>whnf
   intro N Y;refine⟨_,.refl _,?_⟩
   have B:Src (U.put N (.cells #[] 3)) (some b) (l.flatMap Zy):=by
    rcases V with⟨E,_⟩|⟨W,e,Z⟩
    .cases E
    .cases e;exact .inr ⟨_,rfl,Z.lg (Z2 N _)⟩
   conv=>whnf
   refine Wn (v:=.slice (some ⟨N,0,none⟩) 0 0) (cs:=[]) (new:=l.flatMap Zy) (M₀:=U.M) H2 rfl rfl .empty B z P (by rw[z,length_nil];omega) λ v' M' F _=>?_;obtain⟨ta,tl,tc,rfl,-,-⟩:=Acc.src (U:={ U with M:=M' }) F
   repeat refine⟨rfl,?_⟩
   conv=>whnf
   exact⟨by simpa using F,λ _ _ h=>h,rfl⟩
 refine L.sep λ v U' B⟨ha,X,ht⟩=>?_;obtain⟨U'',k1,k2,a',K,cap',rfl,hl',H,G,_⟩:=ha.freeze B X ht;have:l.length=K:=by have e:=z.symm.trans hl';omega
 subst this;exact⟨U'',k1,⟨a',cap',rfl,HC (enc:=Zy) (n:=1) (λ _=>rfl) H G D1,G,ha.room⟩,k2⟩
structure GO(U:Qa T)(l:List Int)(many:Nat)(g:FuncId)(first capt:Array Value)(bm bt bl bn:Nat):Prop where
 m:Zi U bm #[.int .i64 many]
 t:Zi U bt #[.func (.func g) first capt]
 l:∃a cap,Zi U bl #[.slice a l.length cap]/\Q7 U.frz a l.length 1 l (λ x vs=>vs=Zy x)
 n:Zi U bn #[.func (.func 108) #[] #[.pointer (some ⟨bm,0,none⟩),.pointer (some ⟨bt,0,none⟩),.pointer (some ⟨bl,0,none⟩),.pointer (some ⟨bn,0,none⟩)]]
def GO.lg{U':Qa T}{l:List Int}{f:Nat}{g:FuncId}{first b:Array Value}{bm z bl w:Nat}(h:GO U l f g first b bm z bl w)(k:U.frz.lg U'.frz):GO U' l f g first b bm z bl w:=
 ⟨h.m.imI k.imm,h.t.imI k.imm,let ⟨a,c,h1,h2⟩:=h.l;⟨a,c,h1.imI k.imm,h2.lg k λ _ _ h=>h⟩,h.n.imI k.imm⟩
set_option maxHeartbeats 1000000 in
def zi(l:List (Int×Int))(hl:l.length<=1000)(aj:Nat)(hm:aj<=1000)(g:FuncId)(first al:Array Value)(hg:(prog.funcs[g]?.any λ fd=>fd.body.isSome&&fd.name != "runtime.NumGoroutine")=true){bm bt bl bn:Nat}{ps:List (List (Int×Int))}{I:Nat->Qa T->Prop}{E:Qa T->Prop}{U₀:Qa T}
  (a6:∀k L Y,L.le Y->I k L->I k Y) (bi:Gx S g first al encII 2 ps I E U₀) :
  ∀(m:Nat)(x:List (Int×Int))(i j:Nat)(xv:Value)(U:Qa T)(Z Mc:List Qw),x.length+m=aj->i<=l.length->U₀.frz.lg U.frz->GP U l aj g first al bm bt bl bn->Acc 75 2 xv (x.flatMap encII) U.M (Z++Mc)->(∀(i':Nat)q,(TM.parts (l.drop i) m)[i']?=some q->ps[j+i']?=some (x++q))->I j ⟨U.I,Mc,U.tok⟩ ->
   Qb S 113 #[xv,.int .i64 i,.pointer (some ⟨bm,0,none⟩),.pointer (some ⟨bt,0,none⟩),.pointer (some ⟨bl,0,none⟩),.pointer (some ⟨bn,0,none⟩)]
    (λ v U'=>(v=.bool false/\U.frz.lg U'.frz/\∃w,Acc 75 2 xv (x.flatMap encII) U'.M (Z++w)/\I (j+(TM.parts (l.drop i) m).length) ⟨U'.I,w,U'.tok⟩)\/(v=.bool true/\∃X' w,U'.M=X'++w/\E ⟨U'.I,w,U'.tok⟩/\∀x o,U.I x=some o->U'.I x=some o)) U:=by
 intro m
 induction m with
 |zero=>
  intro x i j xv U Z Mc bj hi h0 ab F V hI;obtain⟨sa,sl,sc,rfl,ap,a5⟩:=F.src;have aq:x.length=sl:=by have e:=(Qz (f:=encII) (n:=2) (λ _=>rfl) x).symm.trans ap;omega
  subst aq
  obtain⟨A,hA⟩:∃A,U.M=A++(Z++Mc):=by
   rcases F with⟨_,_,hM⟩|⟨b,c,len,cap,_,_,_,_,hM,_⟩
   .exact⟨[],hM⟩
   .exact⟨[_],hM⟩
  refine Qb.of (args:=[_,_,_,_,_,_]) VV Qe S1 ?_;refine⟨_,ab.m.sees3 (o:=0) rfl,?_⟩
  repeat refine⟨rfl,?_⟩
  conv=>whnf
  apply Qg<;>intro hc
  .refine⟨_,ab.t.sees3 (o:=0) rfl,λ v U'=>∃a' cap',v=.slice a' x.length cap'/\Q7 U'.frz a' x.length 2 x (λ x vs=>vs=encII x)/\(∀ad,a'=some ad->ad.spot=none)/\x.length<=cap',λ v L Y⟨a',c',e,h,s⟩z=>⟨a',c',e,h.lg z.lg.frz2 λ _ _ h=>h,s⟩,λ U' z hC=>?_,λ v hv=>?_⟩
   .refine⟨FN.any,(Ma sa sc x (Src.lg' a5 z.lg) O1).mono ?_⟩;rintro v U''⟨hv,a1⟩-;exact⟨U'',.refl _,hv,a1⟩
   obtain⟨_,-,-,a',c',rfl,-⟩:=hv
   conv=>whnf
   intro L aa hC;obtain⟨-,a2,c2,e2,hr,hs⟩:=hC;cases e2;have a3:ps[j]?=some x:=by have:=V 0 [] (by rw[P7];rfl);simpa using this
   have aw:L.M=(A++Z)++Mc:=by rw[aa.own,hA,append_assoc]
   refine⟨hg,(bi j x a' c' L (A++Z) Mc a3 (h0.trans aa.lg.frz2) hr hs aw (a6 j ⟨U.I,Mc,U.tok⟩ ⟨L.I,Mc,L.tok⟩ ⟨aa.imm,rfl,aa.tok⟩ hI)).mono ?_⟩;rintro v Y (⟨rfl,ah,w,X,av⟩|⟨rfl,X',w,X,hE,ag⟩) -
   .repeat refine⟨rfl,?_⟩
    conv=>whnf
    refine .inl ⟨rfl,aa.lg.frz2.trans ah,w,?_,by rw[P7];exact av⟩;rcases F with⟨e1,g2,hM⟩|⟨b,c,len,cap,e1,g1,g2,g3,hM,g5⟩
    .refine .inl ⟨e1,g2,?_⟩
     have:A=[]:=by
      rw[hM]at hA;exact self_eq_append_left.1 hA
     rw[X,this];rfl
    .refine .inr ⟨b,c,len,cap,e1,g1,g2,g3,?_,g5⟩
     have:A=[.obj b (.cells c 75 (0,0))]:=by
      rw[hM]at hA;exact(append_cancel_right (show[Qw.obj b (.cells c 75 (0,0))]++(Z++Mc)=A++(Z++Mc) from hA)).symm
     rw[X,this,append_assoc];rfl
   .repeat refine⟨rfl,?_⟩
    conv=>whnf
    exact .inr ⟨rfl,X',w,X,hE,λ x o hx=>ag x o (aa.imm x o hx)⟩
  .simp at hc;omega
 |succ m ih=>
  intro x i j xv U Z Mc bj hi h0 ab F V hI;obtain⟨sa,sl,sc,rfl,ap,-⟩:=F.src;have aq:x.length=sl:=by have e:=(Qz (f:=encII) (n:=2) (λ _=>rfl) x).symm.trans ap;omega
  subst aq;have bd:(x.flatMap encII).length=x.length*2:=Qz (f:=encII) (λ _=>rfl) x;refine Qb.of (args:=[_,_,_,_,_,_]) VV Qe S1 ?_;refine⟨_,ab.m.sees3 (o:=0) rfl,?_⟩
  repeat refine⟨rfl,?_⟩
  conv=>whnf
  apply Qg<;>intro hc
  .simp at hc;omega
  clear hc
  refine⟨Nat×Nat,λ y=>[(0,.slice sa x.length sc),(2,.pointer (some ⟨bm,0,none⟩)),(3,.pointer (some ⟨bt,0,none⟩)),(4,.pointer (some ⟨bl,0,none⟩)),(5,.pointer (some ⟨bn,0,none⟩)),(9,.int .i64 y.1)],
   λ y U'=>U.frz.lg U'.frz/\y.1<=l.length/\(∃w,Acc 75 2 (.slice sa x.length sc) (x.flatMap encII) U'.M (Z++w)/\I y.2 ⟨U'.I,w,U'.tok⟩)/\(∀(i':Nat)q,(TM.parts (l.drop y.1) (m+1))[i']?=some q->ps[y.2+i']?=some (x++q))/\y.2+(TM.parts (l.drop y.1) (m+1)).length=j+(TM.parts (l.drop i) (m+1)).length,
   λ y=>l.length-y.1,(i,j),T1,⟨⟨λ _ _ h=>h,⟨[],rfl⟩,rfl⟩,hi,⟨Mc,F,hI⟩,V,rfl⟩,?_⟩
  rintro⟨i,jj⟩f L⟨ah,hi,⟨w,F,hI⟩,V,P⟩;simp only at hi V P hI;have am:=ab.lg ah;obtain⟨la,lc,ax,ao⟩:=am.l;have a0:Z7 ((i:Int)+1):=I1
  refine⟨_,ax.sees3 (o:=0) rfl,?_⟩
  repeat refine⟨rfl,?_⟩
  conv=>whnf
  apply Qg<;>intro hc
  .have hlt:i<l.length:=by simpa using hc
   obtain⟨ad,e,vs,hx,rfl,bk,rfl,-,bh⟩:=Q7.at ao hlt;have bg:=Dv (m:=m) hx;rw[bg]at V P;rw[length_append,length_map]at P;have bf:Zi L.frz bn _:=am.n.imI λ _ _ h=>h;have be:Zi L.frz bl _:=ax.imI λ _ _ h=>h
   conv=>whnf
   intro ac Q
   refine Sp (mu:=[1006]) (ops:=GY Tryz.f113 6) (id:=6) Q [7,8] [[0,1,2,3,4,5,6,9,10,7,8]] [11] E9 zH Qe K1 K1 K1 K1 K1
    (λ f' au U'=>au=[]/\∃(ak:Value)(Zn:List Qw),Xu f' [(0,.slice sa x.length sc),(2,.pointer (some ⟨bm,0,none⟩)),(3,.pointer (some ⟨bt,0,none⟩)),(4,.pointer (some ⟨bl,0,none⟩)),(5,.pointer (some ⟨bn,0,none⟩)),(9,.int .i64 i),(26,.func (.func 113) #[] #[.pointer (some ⟨bm,0,none⟩),.pointer (some ⟨bt,0,none⟩),.pointer (some ⟨bl,0,none⟩),.pointer (some ⟨bn,0,none⟩)]),(34,ak),(36,.int .i64 ((i:Int)+1))]/\Acc 75 2 ak (x.flatMap encII++encII e) U'.M (Zn++(Z++w))/\(∀ae B,Acc 75 2 ak (x.flatMap encII++encII e) ae (Zn++B)->∃M3:List Qw,M3.Sublist ae/\Acc 75 2 (.slice sa x.length sc) (x.flatMap encII) M3 B)/\L.frz.lg U') ?_ ?_
   .intro l' hl';simp only[E9,mem_cons,not_mem_nil,or_false]at hl';subst hl';refine⟨_,bf.sees3 (o:=0) rfl,_,be.sees3 (o:=0) rfl,ad,i,⟨rfl,rfl,hlt⟩,_,⟨rfl,bh⟩,a0,λ v U'=>∃N,v=.slice (some ⟨N,0,none⟩) 1 1/\Zi U' N (encII e).toArray/\L.le U',λ v L Y⟨N,e1,hb,hl⟩z=>⟨N,e1,hb.le z,hl.trans z⟩,λ v U'⟨N,e1,hb,hl⟩=>⟨hl.imm,⟨_,(append_nil _).symm⟩,hl.tok⟩,λ U' hC=>?_,λ v hv=>?_⟩
    .have z:=hC
     conv=>whnf
     intro N ay;exact Zh ay λ U3 bb hb=>⟨U3,.refl _,N,rfl,hb,Qa.le.trans z bb⟩
    obtain⟨_,N,rfl,-⟩:=hv;refine⟨λ v U'=>∃Zn,(∃a' l' c',v=.slice a' l' c')/\Acc 75 2 v (x.flatMap encII++encII e) U'.M (Zn++(Z++w))/\(∀ae B,Acc 75 2 v (x.flatMap encII++encII e) ae (Zn++B)->∃M3:List Qw,M3.Sublist ae/\Acc 75 2 (.slice sa x.length sc) (x.flatMap encII) M3 B)/\L.frz.lg U',λ v L Y⟨Zn,hs,h1,h2,h3⟩z=>⟨Zn,hs,by rw[z.own];exact h1,h2,h3.trans z.lg⟩,λ v U'⟨Zn,hs,h1,h2,h3⟩=>h3,λ U' hC=>?_,λ v hv=>?_⟩
    .obtain⟨b33',e33,hb33,z⟩:=hC;cases e33
     conv=>whnf
     refine Dy (v:=.slice sa x.length sc) (cs:=x.flatMap encII) (new:=encII e) (M₀:=Z++w) VZ rfl rfl (by rw[z.own];exact F) (.inr ⟨_,rfl,hb33.rd⟩) rfl (by simp[encII,Value.single]) (by rw[bd];simp[encII];omega) (by simp[encII]) λ v' M' Zn h1 h2=>?_;refine⟨_,.refl _,Zn,?_,h1,h2,⟨z.imm,⟨_,(append_nil _).symm⟩,z.tok⟩⟩;obtain⟨ta,tl,tc,e1,-⟩:=Acc.src (U:={ U' with M:=M' }) h1;exact⟨ta,tl,tc,e1⟩
    obtain⟨_,Zn,⟨va,vl,vc,rfl⟩,-⟩:=hv
    conv=>whnf
    rintro U'⟨a9,-,h1,h2,h3⟩;exact⟨rfl,_,a9,T1,h1,h2,h3⟩
   rintro f' au Y⟨rfl,ak,Zn,az,af,a4,ai⟩;rw[<- az.ovr];clear az;obtain⟨va,vl,vc,rfl,-⟩:=af.src;have K:U.frz.lg Y.frz:=ah.trans ai.frz2;have a8:(x++[e]).flatMap encII=x.flatMap encII++encII e:=by rw[flatMap_append];simp
   have W:=ih (x++[e]) (i+1) jj (.slice va vl vc) Y (Zn++Z) w (by rw[length_append];simp;omega) O1 (h0.trans K) (ab.lg K) (by rw[a8,append_assoc];exact af) (λ t q hq=>by
    have:=V t (e::q) (by
     rw[getElem?_append_left (by rw[length_map];exact(List.getElem?_eq_some_iff.1 hq).1),getElem?_map,hq];rfl)
    rw[this];simp) (a6 jj ⟨L.I,w,L.tok⟩ ⟨Y.I,w,Y.tok⟩ ⟨ai.imm,rfl,ai.tok⟩ hI)
   have W:=W.post (R':=λ v U'=>(v=.bool false/\Y.frz.lg U'.frz/\∃G,Acc 75 2 (.slice sa x.length sc) (x.flatMap encII) U'.M (Z++G)/\I (jj+(TM.parts (l.drop (i+1)) m).length) ⟨U'.I,G,U'.tok⟩)\/(v=.bool true/\∃X' w,U'.M=X'++w/\E ⟨U'.I,w,U'.tok⟩/\∀x o,Y.I x=some o->U'.I x=some o)) λ v U' hv=>by
    rcases hv with⟨rfl,hl,G,ha,an⟩|h
    .rw[a8,append_assoc]at ha;obtain⟨M3,a7,bc⟩:=a4 _ _ ha;exact⟨_,Zx a7,.inl ⟨rfl,hl,G,bc,an⟩⟩
    .exact⟨U',.refl _,.inr h⟩
   refine⟨VV.any,W.mono ?_⟩;rintro v U3 (⟨rfl,hl,G,ha,an⟩|⟨rfl,X',G,ba,hE,ag⟩) -
   .conv=>whnf
    intro a' H;refine⟨by rw[H.size,Q.size],_,H.get,?_⟩;rw[H.ds];clear H Q;refine⟨a0,rfl,(i+1,jj+(TM.parts (l.drop (i+1)) m).length),T1,⟨K.trans hl,by show i+1<=l.length;omega,⟨G,ha,an⟩,λ t q hq=>?_,by show jj+(TM.parts (l.drop (i+1)) m).length+(TM.parts (l.drop (i+1)) (m+1)).length=_;omega⟩,L1⟩;show ps[jj+(TM.parts (l.drop (i+1)) m).length+t]?=_;rw[Nat.add_assoc];refine V _ q ?_;rw[getElem?_append_right (by rw[length_map];omega),length_map,Nat.add_sub_cancel_left];exact hq
   .conv=>whnf
    intro a' H;refine⟨by rw[H.size,Q.size],_,H.get,?_⟩;rw[H.ds];clear H Q
    repeat refine⟨rfl,?_⟩
    conv=>whnf
    exact .inr ⟨rfl,X',G,ba,hE,λ x o hx=>ag x o (K.imm x o hx)⟩
  .have hge:l.length<=i:=by simpa using hc
   rw[IE hge,length_nil,Nat.add_zero]at P
   repeat refine⟨rfl,?_⟩
   conv=>whnf
   exact .inl ⟨rfl,ah,w,F,by rw[<- P];exact hI⟩
set_option maxHeartbeats 1000000 in
def zh(l:List Int)(hl:l.length<=1000)(aj:Nat)(hm:aj<=1000)(g:FuncId)(first al:Array Value)(hg:(prog.funcs[g]?.any λ fd=>fd.body.isSome&&fd.name != "runtime.NumGoroutine")=true){bm bt bl bn:Nat}{ps:List (List Int)}{I:Nat->Qa T->Prop}{E:Qa T->Prop}{U₀:Qa T}
  (a6:∀k L Y,L.le Y->I k L->I k Y) (bi:Gx S g first al Zy 1 ps I E U₀) :
  ∀(m:Nat)(x:List Int)(i j:Nat)(xv:Value)(U:Qa T)(Z Mc:List Qw),x.length+m=aj->i<=l.length->U₀.frz.lg U.frz->GO U l aj g first al bm bt bl bn->Acc 3 1 xv (x.flatMap Zy) U.M (Z++Mc)->(∀(i':Nat)q,(TM.parts (l.drop i) m)[i']?=some q->ps[j+i']?=some (x++q))->I j ⟨U.I,Mc,U.tok⟩ ->
   Qb S 108 #[xv,.int .i64 i,.pointer (some ⟨bm,0,none⟩),.pointer (some ⟨bt,0,none⟩),.pointer (some ⟨bl,0,none⟩),.pointer (some ⟨bn,0,none⟩)]
    (λ v U'=>(v=.bool false/\U.frz.lg U'.frz/\∃w,Acc 3 1 xv (x.flatMap Zy) U'.M (Z++w)/\I (j+(TM.parts (l.drop i) m).length) ⟨U'.I,w,U'.tok⟩)\/(v=.bool true/\∃X' w,U'.M=X'++w/\E ⟨U'.I,w,U'.tok⟩/\∀x o,U.I x=some o->U'.I x=some o)) U:=by
 intro m
 induction m with
 |zero=>
  intro x i j xv U Z Mc bj hi h0 ab F V hI;obtain⟨sa,sl,sc,rfl,ap,a5⟩:=F.src;have aq:x.length=sl:=by have e:=(Qz (f:=Zy) (n:=1) (λ _=>rfl) x).symm.trans ap;omega
  subst aq
  obtain⟨A,hA⟩:∃A,U.M=A++(Z++Mc):=by
   rcases F with⟨_,_,hM⟩|⟨b,c,len,cap,_,_,_,_,hM,_⟩
   .exact⟨[],hM⟩
   .exact⟨[_],hM⟩
  refine Qb.of (args:=[_,_,_,_,_,_]) VU Qe S1 ?_;refine⟨_,ab.m.sees3 (o:=0) rfl,?_⟩
  repeat refine⟨rfl,?_⟩
  conv=>whnf
  apply Qg<;>intro hc
  .refine⟨_,ab.t.sees3 (o:=0) rfl,λ v U'=>∃a' cap',v=.slice a' x.length cap'/\Q7 U'.frz a' x.length 1 x (λ x vs=>vs=Zy x)/\(∀ad,a'=some ad->ad.spot=none)/\x.length<=cap',λ v L Y⟨a',c',e,h,s⟩z=>⟨a',c',e,h.lg z.lg.frz2 λ _ _ h=>h,s⟩,λ U' z hC=>?_,λ v hv=>?_⟩
   .refine⟨Pz.any,(M9 sa sc x (Src.lg' a5 z.lg) O1).mono ?_⟩;rintro v U''⟨hv,a1⟩-;exact⟨U'',.refl _,hv,a1⟩
   obtain⟨_,-,-,a',c',rfl,-⟩:=hv
   conv=>whnf
   intro L aa hC;obtain⟨-,a2,c2,e2,hr,hs⟩:=hC;cases e2;have a3:ps[j]?=some x:=by have:=V 0 [] (by rw[P7];rfl);simpa using this
   have aw:L.M=(A++Z)++Mc:=by rw[aa.own,hA,append_assoc]
   refine⟨hg,(bi j x a' c' L (A++Z) Mc a3 (h0.trans aa.lg.frz2) hr hs aw (a6 j ⟨U.I,Mc,U.tok⟩ ⟨L.I,Mc,L.tok⟩ ⟨aa.imm,rfl,aa.tok⟩ hI)).mono ?_⟩;rintro v Y (⟨rfl,ah,w,X,av⟩|⟨rfl,X',w,X,hE,ag⟩) -
   .repeat refine⟨rfl,?_⟩
    conv=>whnf
    refine .inl ⟨rfl,aa.lg.frz2.trans ah,w,?_,by rw[P7];exact av⟩;rcases F with⟨e1,g2,hM⟩|⟨b,c,len,cap,e1,g1,g2,g3,hM,g5⟩
    .refine .inl ⟨e1,g2,?_⟩
     have:A=[]:=by
      rw[hM]at hA;exact self_eq_append_left.1 hA
     rw[X,this];rfl
    .refine .inr ⟨b,c,len,cap,e1,g1,g2,g3,?_,g5⟩
     have:A=[.obj b (.cells c 3 (0,0))]:=by
      rw[hM]at hA;exact(append_cancel_right (show[Qw.obj b (.cells c 3 (0,0))]++(Z++Mc)=A++(Z++Mc) from hA)).symm
     rw[X,this,append_assoc];rfl
   .repeat refine⟨rfl,?_⟩
    conv=>whnf
    exact .inr ⟨rfl,X',w,X,hE,λ x o hx=>ag x o (aa.imm x o hx)⟩
  .simp at hc;omega
 |succ m ih=>
  intro x i j xv U Z Mc bj hi h0 ab F V hI;obtain⟨sa,sl,sc,rfl,ap,-⟩:=F.src;have aq:x.length=sl:=by have e:=(Qz (f:=Zy) (n:=1) (λ _=>rfl) x).symm.trans ap;omega
  subst aq;have bd:(x.flatMap Zy).length=x.length*1:=Qz (f:=Zy) (λ _=>rfl) x;refine Qb.of (args:=[_,_,_,_,_,_]) VU Qe S1 ?_;refine⟨_,ab.m.sees3 (o:=0) rfl,?_⟩
  repeat refine⟨rfl,?_⟩
  conv=>whnf
  apply Qg<;>intro hc
  .simp at hc;omega
  clear hc
  refine⟨Nat×Nat,λ y=>[(0,.slice sa x.length sc),(2,.pointer (some ⟨bm,0,none⟩)),(3,.pointer (some ⟨bt,0,none⟩)),(4,.pointer (some ⟨bl,0,none⟩)),(5,.pointer (some ⟨bn,0,none⟩)),(9,.int .i64 y.1)],
   λ y U'=>U.frz.lg U'.frz/\y.1<=l.length/\(∃w,Acc 3 1 (.slice sa x.length sc) (x.flatMap Zy) U'.M (Z++w)/\I y.2 ⟨U'.I,w,U'.tok⟩)/\(∀(i':Nat)q,(TM.parts (l.drop y.1) (m+1))[i']?=some q->ps[y.2+i']?=some (x++q))/\y.2+(TM.parts (l.drop y.1) (m+1)).length=j+(TM.parts (l.drop i) (m+1)).length,
   λ y=>l.length-y.1,(i,j),T1,⟨⟨λ _ _ h=>h,⟨[],rfl⟩,rfl⟩,hi,⟨Mc,F,hI⟩,V,rfl⟩,?_⟩
  rintro⟨i,jj⟩f L⟨ah,hi,⟨w,F,hI⟩,V,P⟩;simp only at hi V P hI;have am:=ab.lg ah;obtain⟨la,lc,ax,ao⟩:=am.l;have a0:Z7 ((i:Int)+1):=I1
  refine⟨_,ax.sees3 (o:=0) rfl,?_⟩
  repeat refine⟨rfl,?_⟩
  conv=>whnf
  apply Qg<;>intro hc
  .have hlt:i<l.length:=by simpa using hc
   obtain⟨ad,e,vs,hx,rfl,bk,rfl,-,bh⟩:=Q7.at ao hlt;have bg:=Dv (m:=m) hx;rw[bg]at V P;rw[length_append,length_map]at P;have bf:Zi L.frz bn _:=am.n.imI λ _ _ h=>h;have be:Zi L.frz bl _:=ax.imI λ _ _ h=>h
   conv=>whnf
   intro ac Q
   refine Sp (mu:=[1006]) (ops:=GY Tryz.f108 6) (id:=6) Q [7,8] [[0,1,2,3,4,5,6,9,10,7,8]] [11] E8 zG Qe K1 K1 K1 K1 K1
    (λ f' au U'=>au=[]/\∃(ak:Value)(Zn:List Qw),Xu f' [(0,.slice sa x.length sc),(2,.pointer (some ⟨bm,0,none⟩)),(3,.pointer (some ⟨bt,0,none⟩)),(4,.pointer (some ⟨bl,0,none⟩)),(5,.pointer (some ⟨bn,0,none⟩)),(9,.int .i64 i),(26,.func (.func 108) #[] #[.pointer (some ⟨bm,0,none⟩),.pointer (some ⟨bt,0,none⟩),.pointer (some ⟨bl,0,none⟩),.pointer (some ⟨bn,0,none⟩)]),(34,ak),(36,.int .i64 ((i:Int)+1))]/\Acc 3 1 ak (x.flatMap Zy++Zy e) U'.M (Zn++(Z++w))/\(∀ae B,Acc 3 1 ak (x.flatMap Zy++Zy e) ae (Zn++B)->∃M3:List Qw,M3.Sublist ae/\Acc 3 1 (.slice sa x.length sc) (x.flatMap Zy) M3 B)/\L.frz.lg U') ?_ ?_
   .intro l' hl';simp only[E8,mem_cons,not_mem_nil,or_false]at hl';subst hl';refine⟨_,bf.sees3 (o:=0) rfl,_,be.sees3 (o:=0) rfl,ad,i,⟨rfl,rfl,hlt⟩,_,bh 0 _ rfl,a0,λ v U'=>∃N,v=.slice (some ⟨N,0,none⟩) 1 1/\Zi U' N (Zy e).toArray/\L.le U',λ v L Y⟨N,e1,hb,hl⟩z=>⟨N,e1,hb.le z,hl.trans z⟩,λ v U'⟨N,e1,hb,hl⟩=>⟨hl.imm,⟨_,(append_nil _).symm⟩,hl.tok⟩,λ U' hC=>?_,λ v hv=>?_⟩
    .have z:=hC
     conv=>whnf
     intro N ay;exact Zh ay λ U3 bb hb=>⟨U3,.refl _,N,rfl,hb,Qa.le.trans z bb⟩
    obtain⟨_,N,rfl,-⟩:=hv;refine⟨λ v U'=>∃Zn,(∃a' l' c',v=.slice a' l' c')/\Acc 3 1 v (x.flatMap Zy++Zy e) U'.M (Zn++(Z++w))/\(∀ae B,Acc 3 1 v (x.flatMap Zy++Zy e) ae (Zn++B)->∃M3:List Qw,M3.Sublist ae/\Acc 3 1 (.slice sa x.length sc) (x.flatMap Zy) M3 B)/\L.frz.lg U',λ v L Y⟨Zn,hs,h1,h2,h3⟩z=>⟨Zn,hs,by rw[z.own];exact h1,h2,h3.trans z.lg⟩,λ v U'⟨Zn,hs,h1,h2,h3⟩=>h3,λ U' hC=>?_,λ v hv=>?_⟩
    .obtain⟨b33',e33,hb33,z⟩:=hC;cases e33
     conv=>whnf
     refine Dy (v:=.slice sa x.length sc) (cs:=x.flatMap Zy) (new:=Zy e) (M₀:=Z++w) H2 rfl rfl (by rw[z.own];exact F) (.inr ⟨_,rfl,hb33.rd⟩) rfl (by simp[Zy,Value.single]) (by rw[bd];simp[Zy];omega) (by simp[Zy]) λ v' M' Zn h1 h2=>?_;refine⟨_,.refl _,Zn,?_,h1,h2,⟨z.imm,⟨_,(append_nil _).symm⟩,z.tok⟩⟩;obtain⟨ta,tl,tc,e1,-⟩:=Acc.src (U:={ U' with M:=M' }) h1;exact⟨ta,tl,tc,e1⟩
    obtain⟨_,Zn,⟨va,vl,vc,rfl⟩,-⟩:=hv
    conv=>whnf
    rintro U'⟨a9,-,h1,h2,h3⟩;exact⟨rfl,_,a9,T1,h1,h2,h3⟩
   rintro f' au Y⟨rfl,ak,Zn,az,af,a4,ai⟩;rw[<- az.ovr];clear az;obtain⟨va,vl,vc,rfl,-⟩:=af.src;have K:U.frz.lg Y.frz:=ah.trans ai.frz2;have a8:(x++[e]).flatMap Zy=x.flatMap Zy++Zy e:=by rw[flatMap_append];simp
   have W:=ih (x++[e]) (i+1) jj (.slice va vl vc) Y (Zn++Z) w (by rw[length_append];simp;omega) O1 (h0.trans K) (ab.lg K) (by rw[a8,append_assoc];exact af) (λ t q hq=>by
    have:=V t (e::q) (by
     rw[getElem?_append_left (by rw[length_map];exact(List.getElem?_eq_some_iff.1 hq).1),getElem?_map,hq];rfl)
    rw[this];simp) (a6 jj ⟨L.I,w,L.tok⟩ ⟨Y.I,w,Y.tok⟩ ⟨ai.imm,rfl,ai.tok⟩ hI)
   have W:=W.post (R':=λ v U'=>(v=.bool false/\Y.frz.lg U'.frz/\∃G,Acc 3 1 (.slice sa x.length sc) (x.flatMap Zy) U'.M (Z++G)/\I (jj+(TM.parts (l.drop (i+1)) m).length) ⟨U'.I,G,U'.tok⟩)\/(v=.bool true/\∃X' w,U'.M=X'++w/\E ⟨U'.I,w,U'.tok⟩/\∀x o,Y.I x=some o->U'.I x=some o)) λ v U' hv=>by
    rcases hv with⟨rfl,hl,G,ha,an⟩|h
    .rw[a8,append_assoc]at ha;obtain⟨M3,a7,bc⟩:=a4 _ _ ha;exact⟨_,Zx a7,.inl ⟨rfl,hl,G,bc,an⟩⟩
    .exact⟨U',.refl _,.inr h⟩
   refine⟨VU.any,W.mono ?_⟩;rintro v U3 (⟨rfl,hl,G,ha,an⟩|⟨rfl,X',G,ba,hE,ag⟩) -
   .conv=>whnf
    intro a' H;refine⟨by rw[H.size,Q.size],_,H.get,?_⟩;rw[H.ds];clear H Q;refine⟨a0,rfl,(i+1,jj+(TM.parts (l.drop (i+1)) m).length),T1,⟨K.trans hl,by show i+1<=l.length;omega,⟨G,ha,an⟩,λ t q hq=>?_,by show jj+(TM.parts (l.drop (i+1)) m).length+(TM.parts (l.drop (i+1)) (m+1)).length=_;omega⟩,L1⟩;show ps[jj+(TM.parts (l.drop (i+1)) m).length+t]?=_;rw[Nat.add_assoc];refine V _ q ?_;rw[getElem?_append_right (by rw[length_map];omega),length_map,Nat.add_sub_cancel_left];exact hq
   .conv=>whnf
    intro a' H;refine⟨by rw[H.size,Q.size],_,H.get,?_⟩;rw[H.ds];clear H Q
    repeat refine⟨rfl,?_⟩
    conv=>whnf
    exact .inr ⟨rfl,X',G,ba,hE,λ x o hx=>ag x o (K.imm x o hx)⟩
  .have hge:l.length<=i:=by simpa using hc
   rw[IE hge,length_nil,Nat.add_zero]at P
   repeat refine⟨rfl,?_⟩
   conv=>whnf
   exact .inl ⟨rfl,ah,w,F,by rw[<- P];exact hI⟩
end Go.Proofs

