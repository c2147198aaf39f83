/- Lemmas. No conditions. -/
import Derived.Test.YtignaaddghcanaaGreatDoorB35
import Derived.Test.YtignaaddghcanaaGreatDoorB03
set_option linter.all false
set_option maxRecDepth 100000
set_option maxHeartbeats 2000000
open List
open Go.Proofs.Tryz (prog)
namespace Go.TM
open Go.Proofs
variable{b:Bk}{k i e n r:Nat}{o:List Nat}{T κ:Type}{U:Qa T}{c args:Array Value}{t:TypeId}{M' M A M₀:List Qw}{Q:Qa T->Prop}{cs rest:List Value}{P:Program}{d:Sys P T}{f:FuncId}{X Y:List Int}{z:Value}{s:Nat->Bool}{l:List (κ×Nat)}{p:κ×Value}{q:κ->Bool}{seen:Array Nat}{H:κ×Nat}
def Bk.ords_le(b:Bk)(h:b.cs.length<=5):∀(k:Nat)(o:List Nat),(b.ords k o).length<=5^k:=by
 intro k
 induction k with
 |zero=>intro o;simp[Bk.ords]
 |succ k z=>
  intro o
  have key:∀m,(b.ordsTo k o m).length<=m*5^k:=by
   intro m
   induction m with
   |zero=>simp[Bk.ordsTo]
   |succ m B=>
    rw[b.ordsTo_succ,length_append,Nat.succ_mul]
    have:(if b.can o m then b.ords k (o++[m])else[]).length<=5^k:=by
     split
     .exact z _
     .exact Nat.zero_le _
    omega
  have f:=key b.cs.length;have w:b.cs.length*5^k<=5*5^k:=Nat.mul_le_mul_right _ h;rw[Nat.pow_succ,Nat.mul_comm];exact Nat.le_trans f w
def Bk.all_le(b:Bk)(h:b.cs.length<=5):b.all.length<=3125:=
 Nat.le_trans (b.ords_le h _ _) (Nat.le_trans (Nat.pow_le_pow_right O1 h) D1)
def Bk.wc(b:Bk)(k i:Nat):Nat:=(b.all.take k).countP λ o=>(b.ends o).2.getD i false
def Bk.wc_succ(h:b.all[k]?=some o)(i:Nat):b.wc (k+1) i=b.wc k i+if(b.ends o).2.getD i false then 1 else 0:=by
 unfold Bk.wc;rw[Wf h,countP_append];simp[countP_cons]
def Bk.wc_le(b:Bk)(k i:Nat):b.wc k i<=b.all.length:=Nat.le_trans countP_le_length (by rw[length_take];omega)
def Bk.sc(b:Bk)(k:Nat):List (WN×Nat):=Xw ((b.all.take k).map λ o=>six (Wx (b.ends o).1))
def Bk.sc_succ(h:b.all[k]?=some o):b.sc (k+1)=WC (six (Wx (b.ends o).1)) (b.sc k):=by
 unfold Bk.sc;rw[Wf h,map_append,map_singleton,FC]
def Bk.sc_facts(b:Bk)(k:Nat):(b.sc k).length<=b.all.length/\(∀p∈b.sc k,p.2<=b.all.length)/\∀q:WN->Bool,XB q (b.sc k)=(b.all.take k).countP λ o=>q (six (Wx (b.ends o).1)):=by
 obtain⟨h,w,z⟩:=Bn _ ((b.all.take k).map λ o=>six (Wx (b.ends o).1)) rfl;have f:((b.all.take k).map λ o=>six (Wx (b.ends o).1)).length<=b.all.length:=S3
 exact⟨Nat.le_trans h f,λ p B=>Nat.le_trans (w p B) f,λ q=>by unfold Bk.sc;rw[z,countP_map];rfl⟩
def Wb(b:Bk)(k i:Nat):List Value:=(range b.cs.length).map λ j=>.int .i64 (b.wc (if j<i then k+1 else k) j:Nat)
def G9{j:Nat}(h:j<b.cs.length):(Wb b k i)[j]?=some (.int .i64 (b.wc (if j<i then k+1 else k) j:Nat)):=by
 unfold Wb;rw[getElem?_map,getElem?_range h];rfl
def Oy(b:Bk)(k i:Nat):(Wb b k i).length=b.cs.length:=by simp[Wb]
def h_(b:Bk)(k i:Nat)(h:i<b.cs.length):(Wb b k i).toArray.setIfInBounds i (.int .i64 (b.wc (k+1) i:Nat))=(Wb b k (i+1)).toArray:=by
 apply Array.ext';rw[Array.toList_setIfInBounds];apply ext_getElem?;intro j;rw[getElem?_set];by_cases e:i=j
 .subst e;rw[if_pos rfl,if_pos (by simpa[Wb]using h),G9 h,if_pos O1]
 .rw[if_neg e];by_cases f:j<b.cs.length
  .rw[G9 f,G9 f];have:(j<i)=(j<i+1):=propext O1;simp[this]
  .rw[getElem?_eq_none (by rw[Oy];omega),getElem?_eq_none (by rw[Oy];omega)]
def hS(b:Bk)(k:Nat):Wb b k b.cs.length=Wb b (k+1) 0:=by
 unfold Wb;refine map_congr_left λ j f=>?_;rw[if_pos (mem_range.1 f),if_neg O1]
def zQ(b:Bk):Wb b 0 0=replicate b.cs.length (.int .i64 0):=by
 apply ext_getElem?;intro j;by_cases f:j<b.cs.length
 .rw[G9 f,getElem?_replicate,if_pos f,if_neg O1];simp[Bk.wc]
 .rw[getElem?_eq_none (by rw[Oy];omega),getElem?_eq_none S3]
def kR(w:e<2^60)(h:n<60):IntKind.wrap .i64 ((BitVec.ofInt (IntKind.bits .i64) (Int.fdiv (e:Int) (2^(min ((n:Int).toNat) (IntKind.bits .i64))))&&&BitVec.ofInt (IntKind.bits .i64) 1).toNat:Int)=((if e.testBit n then 1 else 0:Nat):Int):=by
 have B:e>>>n<2^60:=Nat.lt_of_le_of_lt (Nat.shiftRight_le e n) w;have f:=SO B (show 1<2^60 by decide);rw[show((1:Nat):Int)=1 from rfl]at f;have E:Int.fdiv (e:Int) (2^(min ((n:Int).toNat) (IntKind.bits .i64)))=((e>>>n:Nat):Int):=SS h;have b:=HI w h;rw[SS h,f]at b;rw[E];refine f.trans ?_;congr 1;rw[Nat.and_one_is_mod]at b ⊢;have:e>>>n % 2<2:=Nat.mod_lt _ O1;cases z:e.testBit n with
 |true=>
  rw[z,beq_iff_eq]at b;simp only[if_true];omega
 |false=>
  rw[z]at b;have:=ne_of_beq_false b;simp only[Bool.false_eq_true,if_false];omega
def zJ(w:U.free n)(z:M'.Sublist U.M)(h:∀f:Qa T,(∀x o,U.I x=some o->f.I x=some o)->f.tok=U.tok->f.M=M'->Zj f n c->Q f):∃f,Qv (U.put n (.cells c t)) f/\Q f:=
 ⟨_,(Wa (b:=n) (M':=U.M) (Perm.refl _)).trans (Zz (M':=M') z),h _ (Gj (o:=.cells c t) w).imm rfl rfl Zj.new⟩
def kV{κ:Type}[DecidableEq κ](k:κ)(z:Value)(l:List (κ×Value)):(lk k (X1 k z l)).getD z=(lk k l).getD z:=by
 unfold X1;split
 .rfl
 .rename_i h;have f:lk k l=none:=by simpa using h
  rw[f]
  have:∀(l:List (κ×Value))(i:Nat),QK k l i=none->((QK k (l++[(k,z)]) i).map (·.2))=some z:=by
   intro l
   induction l with
   |nil=>intro i _;simp[QK]
   |cons p l w=>
    intro i b;simp only[QK]at b;split at b
    .cases b
    .rename_i e;simp only[cons_append,QK,if_neg e];exact w _ b
  unfold lk at f ⊢;rw[this l 0 (by simpa using f)];rfl
def IC:∃b,prog.info? 3=some b/\b.zero=some (.int .i64 0)/\b.size=1/\b.bytes=8:=by
 have f:(prog.info? 3).map (·.zero)=some (some (.int .i64 0)):=K1
 have w:(prog.info? 3).map (·.size)=some 1:=K1
 have z:(prog.info? 3).map (·.bytes)=some 8:=K1
 cases h:prog.info? 3 with
 |none=>rw[h]at f;cases f
 |some b=>
  rw[h]at f w z;exact⟨b,rfl,Option.some.inj f,Option.some.inj w,Option.some.inj z⟩
def O9:SW prog 113 6:=.of K1
def Pd:prog.underlying 156=some (.map 113 3):=K1
def VD:WG T prog 113 (λ k:WN=>.agg (XX k).toArray):=by
 obtain⟨e,B,b,f,w,z,-⟩:=O9.h;exact WG.arr b f rfl w z (λ k=>rfl) (λ k=>Oq _) vQ λ k=>by simp[Instr.sameBits,XX,QL]
def I0:X3 prog 44 56 1:=.of K1
def E3:List (List (Nat×St)):=[[(0,.xl 27 4),(0,.xo 28 1 7),(0,.xd 29 6 28),(2,.d 30 (.rw (.lookup 156 (.t 27) (.t 29) false) 3)),(0,.xa 31 30),(2,.d 32 (.rw (.mapEntry 156 (.t 27) (.t 29)) 0)),(0,.xe 33 32 1)],
 [(0,.xl 27 4),(0,.xo 28 1 7),(0,.xd 29 6 28),(2,.d 32 (.rw (.mapEntry 156 (.t 27) (.t 29)) 0)),(0,.xe 33 32 1),(2,.d 30 (.rw (.lookup 156 (.t 27) (.t 29) false) 3)),(0,.xa 31 30)]]
def Mz:List St:=[⟨.rw (.entryStore 156 (.t 27) (.t 33) (.t 31)) 0,none,none,none⟩]
def Acc.letgo{v:Value}(h:Acc e n v cs M (A++M₀)):∃M',M'.Sublist M/\Acc e n v cs M' M₀:=by
 rcases h with⟨f,w,z⟩|⟨b,c,len,cap,f,w,B,E,z,F⟩
 .exact⟨M₀,by rw[z];exact sublist_append_right A M₀,.inl ⟨f,w,rfl⟩⟩
 .exact⟨_,by rw[z];exact(sublist_append_right A M₀).cons₂ _,.inr ⟨b,c,len,cap,f,w,B,E,rfl,F⟩⟩
def JP.sublist(f:JP U)(h:M'.Sublist U.M):JP { U with M:=M' }:=λ r b=>f r (h.subset b)
def Qb.lists2{e':Nat}(h:Qb d f args (λ v U'=>∃w z A H,v=.tuple (w::z::rest).toArray/\Acc e' 1 z (Y.map λ n=>.int .i64 n) U'.M H/\Acc e 1 w (X.map λ n=>.int .i64 n) H (A++U.M)/\(∀x L,U.I x=some L->U'.I x=some L)/\U'.tok=U.tok) U) :
  Qb d f args (λ v U'=>(∃w z,v=.tuple (w::z::rest).toArray/\Jw U'.frz w X/\Jw U'.frz z Y)/\U.le U') U:=by
 have F:Qb d f args (λ v U'=>∃w z A,v=.tuple (w::z::rest).toArray/\Jw U'.frz z Y/\Acc e 1 w (X.map λ n=>.int .i64 n) U'.M (A++U.M)/\(∀x L,U.I x=some L->U'.I x=some L)/\U'.tok=U.tok) U:=by
  refine h.sep λ v U' Q⟨w,z,A,H,V,N,F,P,T⟩=>?_;obtain⟨U'',W,B,a,len,cap,rfl,K,b,G,_⟩:=N.freeze (U:={ U' with M:=H }) Q (λ _ _ h=>h) rfl;simp at K;exact⟨U'',W,w,_,A,V,⟨a,cap,by rw[K],Kf b G⟩,by rw[show U''.M=H from B.own];exact F,λ x o h=>B.imm x o (P x o h),B.tok.trans T⟩
 refine F.sep λ v U' Q⟨w,z,A,V,N,F,P,T⟩=>?_;obtain⟨M',E,F⟩:=F.letgo;obtain⟨U'',W,B,a,len,cap,rfl,K,b,G,_⟩:=F.freeze (U:={ U' with M:=U.M }) (U':={ U' with M:=M' }) (Q.sublist E) (λ _ _ h=>h) rfl;simp at K;have Z:U'.frz.lg U''.frz:=⟨B.imm,⟨[],rfl⟩,B.tok⟩;exact⟨U'',(Zz E).trans W,⟨_,z,V,⟨a,cap,by rw[K],Kf b G⟩,N.lg Z⟩,⟨λ x o h=>B.imm x o (P x o h),B.own,B.tok.trans T⟩⟩
def Js(e:TypeId)(n:Nat)(v:Value)(cs:List Value)(A:List Qw):Prop:=∀M₁,Acc e n v cs (A++M₁) M₁
def Acc.split{v:Value}(h:Acc e n v cs M M₀):∃A,M=A++M₀/\Js e n v cs A:=by
 rcases h with⟨rfl,rfl,rfl⟩|⟨b,c,len,cap,rfl,f,w,z,rfl,B⟩
 .exact⟨[],rfl,λ _=>.inl ⟨rfl,rfl,rfl⟩⟩
 .exact⟨[_],rfl,λ _=>.inr ⟨b,c,len,cap,rfl,f,w,z,rfl,B⟩⟩
def Js.nil{e n:Nat}:Js e n .nl [] []:=λ _=>.nil
def Js.src(h:Js e n z cs A):∃a l c,z=.slice a l c/\cs.length=l*n:=by
 rcases h []with⟨rfl,rfl,_⟩|⟨b,c,len,cap,rfl,f,_⟩
 .exact⟨none,0,0,rfl,S1⟩
 .exact⟨_,_,_,rfl,f⟩
def P0{b:Nat}{o f:Obj}{M M':List Qw}(h:J1 b f o M M'):∀A:List Qw,J1 b f o (A++M) (A++M')
 |[]=>h
 |_::A=>.there (P0 h A)
def vR(b:r<6):ZE (QL s) (QL (XY s r true))=s r:=by
 rw[Bool.eq_iff_iff,FF];unfold XY;constructor
 .intro h;have:=h r b
  rwa [if_pos rfl]at this
 .intro h j _;by_cases e:j=r
  .rw[if_pos e,e,h]
  .rw[if_neg e]
def kM(h:(QF l)[i]?=some p):∃q,l[i]?=some q/\p=(q.1,.int .i64 (q.2:Nat)):=by
 unfold QF at h;rw[getElem?_map]at h;cases b:l[i]? with
 |none=>rw[b]at h;cases h
 |some q=>rw[b]at h;cases h;exact⟨q,rfl,rfl⟩
def wM(h:l[i]?=some H):Xe q l (seen.push i).toList=Xe q l seen.toList+if q H.1 then H.2 else 0:=by
 unfold Xe;rw[Array.toList_push,map_append,sum_append];simp[h]
abbrev ZD:WN->Value:=λ k=>.agg (XX k).toArray
variable{S:Sys prog T}
section
attribute [local irreducible] Qb Zp Wv
def DF(h:BH)(b:Bk)(hb:Zq U.frz h b)(cp:b.Ok):Qb S 57 #[h.v] (λ v U'=>(∃v1 v2,v=.tuple #[v1,v2]/\Jw U'.frz v1 b.fatesR/\Jw U'.frz v2 b.fatesC)/\U.le U') U:=by
 refine Qb.lists2 (e:=56) (e':=56) (rest:=[]) (Qb.of (args:=[_]) Oz Qf S1 ?_);have dv:=hb.cs.1;have eo:=hb.rs.1;have d5:=cp.nc;have em:=cp.nr;have hN:=b.all_le d5;obtain⟨i3,ee,ef,eg,et⟩:=IC
 repeat apply R1
 conv=>whnf
 intro B U1 bh hB;have hB:Zj U1 B #[.slice h.ra h.rl h.rc,.slice h.ca h.cl h.cc]:=hB
 conv=>whnf
 refine GT ZD λ mb d3=>?_
 conv=>whnf
 intro b4 c7;refine⟨_,.refl _,rfl,Zv (vs:=[.map (some mb)]) c7 rfl (by simp[Value.single]) λ U2 ch bj=>?_⟩;have V:U1.lg U2:=(Z2 mb _).trans ch.lg;refine⟨_,(hB.lg V).sees3 (o:=1) rfl,?_⟩
 conv=>whnf
 refine DV (n:=h.cl) Pt ee ef rfl eg O1 rfl rfl O1 λ F ed=>?_
 conv=>whnf
 intro b5 c8;refine⟨_,.refl _,rfl,Zv (vs:=[.slice (some ⟨F,0,none⟩) h.cl h.cl]) c8 rfl (by simp[Value.single]) λ U3 cj bk=>?_⟩;have W:U2.lg U3:=(Z2 F _).trans cj.lg
 conv=>whnf
 intro b6 dx;refine⟨_,.refl _,rfl,HC (vs:=[.int .i64 0]) rfl (by simp[Value.single]) ?_⟩;have Z:=Z2 (U:=U3) b6 (.cells #[.int .i64 0] 3);refine⟨_,⟨rfl,(hB.lg (V.trans (W.trans Z))).rd⟩,?_⟩;refine⟨OB.any,(DR h b ((hb.lg bh.lg.frz2).lg (Qr.trans (V.trans (W.trans Z))))).mono ?_⟩;rintro _ U4⟨⟨B',rfl,cu⟩,az⟩-;have aj:U1.lg U4:=V.trans (W.trans (Z.trans az.lg));have bj:Zj U4 b4 #[.map (some mb)]:=bj.lg (W.trans (Z.trans az.lg));have bk:Zj U4 b5 #[.slice (some ⟨F,0,none⟩) h.cl h.cl]:=bk.lg (Z.trans az.lg)
 have dp:U4.M=.obj b6 (.cells #[.int .i64 ((0:Nat):Int)] 3 (0,0))::.obj F (.cells (Wb b 0 0).toArray 3 (0,0))::.obj mb (Qt ZD (QF (b.sc 0)))::U.M:=by
  rw[az.own,zQ,dv];show _::U3.M=_;rw[cj.own];show _::_::U2.M=_;rw[ch.own];show _::_::_::U1.M=_;rw[bh.own];rfl
 have bz:U.frz.lg U4.frz:=bh.lg.frz2.trans aj.frz2;have d9:U4.tok=U.tok:=aj.tok.trans bh.tok;have bm:∀l N,U4.frz.lg N->Yc S 84 #[.func (.yield l) #[] #[],.pb B'] l b.all.length (Gw b) N:=λ l N hl=>Dz h b (hb.lg (bz.trans hl.frz2)) cp (cu.imI hl.imm);clear cu Z W V ed c7 c8 dx d3 ch cj az
 conv=>whnf
 let Inv:Nat->Qa T->Prop:=λ k U'=>U4.frz.lg U'/\U'.M=.obj b6 (.cells #[.int .i64 (k:Nat)] 3 (0,0))::.obj F (.cells (Wb b k 0).toArray 3 (0,0))::.obj mb (Qt ZD (QF (b.sc k)))::U.M
 refine Im Qf b.all.length (Gw b) Inv (λ _ _=>False) (λ _=>False) rfl rfl OH.any bm ?_ ?_ ⟨Qr,dp⟩ ?_ ?_ ?_ ?_
 .rintro k p U' ⟨o,v,-,rfl,-⟩;rfl
 .rintro k U' U'' w ⟨hl,hM⟩;exact⟨SI hl w,w.own.trans hM⟩
 .rintro l A' Bd D k p U₀ KN KX KR KA hk ⟨o,v,ho,rfl,a,cap,rfl,hio,hcap,hsp⟩ ⟨hl,hM⟩ hKN hKX hKR hKA
  conv=>whnf
  intro b7 c9;refine⟨_,.refl _,rfl,Zv (vs:=QP (.slice a o.length cap) (Wx (b.ends o).1) (J0 (b.ends o).2)) c9 rfl (by simp[QP,Value.single]) λ N bi bw=>?_⟩
  conv=>whnf
  have e1:N=({ N with M:=U₀.M }:Qa T).on A' D:=by
   have:=bi.own;obtain⟨i1,m1,t1⟩:=N;simp only[Qa.on]at this ⊢;rw[this]
  rw[e1];refine hKA _ _ ?_;have bg:(({ N with M:=U₀.M }:Qa T).on Bd D).M=[Bd,D]++(.obj b6 (.cells #[.int .i64 (k:Nat)] 3 (0,0))::.obj F (.cells (Wb b k 0).toArray 3 (0,0))::.obj mb (Qt ZD (QF (b.sc k)))::U.M):=by show Bd::D::U₀.M=_;rw[hM];rfl
  have cf:∀x o,U₀.I x=some o->(({ N with M:=U₀.M }:Qa T).on Bd D).I x=some o:=λ x o h=>bi.imm x o h;have au:Zj (({ N with M:=U₀.M }:Qa T).on Bd D) b7 (QP (.slice a o.length cap) (Wx (b.ends o).1) (J0 (b.ends o).2)).toArray:=bw;have cq:(({ N with M:=U₀.M }:Qa T).on Bd D).tok=U₀.tok:=bi.tok;generalize(({ N with M:=U₀.M }:Qa T).on Bd D)=U6 at bg cf au cq ⊢;clear e1 bi bw c9;refine⟨_,Q9 [Bd,D] bg 0 _ rfl,I1,?_⟩;refine⟨rfl,Wd (vs:=[.int .i64 ((k:Int)+1)]) [Bd,D] bg rfl (by simp[Value.single]) λ U7 ay b8 al=>?_⟩;have bf:∀x o,U₀.I x=some o->U7.I x=some o:=λ x o h=>by rw[ay];exact cf x o h
  have au:Zj U7 b7 (QP (.slice a o.length cap) (Wx (b.ends o).1) (J0 (b.ends o).2)).toArray:=au.imI λ x o h=>by rw[ay];exact h
  have br:Zj U7 b4 #[.map (some mb)]:=bj.imI λ x o h=>bf x o (hl.imm x o h);have bs:Zj U7 b5 #[.slice (some ⟨F,0,none⟩) h.cl h.cl]:=bk.imI λ x o h=>bf x o (hl.imm x o h);have di:U7.tok=U₀.tok:=b8.trans cq;obtain⟨dd,an,-⟩:=b.sc_facts k;have dw:JA (six (Wx (b.ends o).1)) (b.sc k)<=3125:=Nat.le_trans (IR _ _ an) hN;have dz:∀q:WN,ZD q=.agg (XX q).toArray:=λ _=>rfl;have ae:Value.agg (QL (Wx (b.ends o).1)).toArray=ZD (six (Wx (b.ends o).1)):=by rw[dz,pN]
  have ao:=kC (six (Wx (b.ends o).1)) (.int .i64 0) (.int .i64 ((JA (six (Wx (b.ends o).1)) (b.sc k)+1:Nat):Int)) (QF (b.sc k));rw[Ld,<- b.sc_succ ho]at ao;have a8:Ja ((JA (six (Wx (b.ends o).1)) (b.sc k):Nat)+1:Int):=I1
  have bd:Jj U7.frz ((Addr.mk b7 0 none).add 1) (QL (Wx (b.ends o).1)):=
   ((au.imI (U':=U7.frz) λ _ _ h=>h).reads (vs:=QP (.slice a o.length cap) (Wx (b.ends o).1) (J0 (b.ends o).2)) (λ k v hv=>by simpa using hv)).sub (o:=1) (n:=6)
  have a0:Zj U7.frz b4 #[.map (some mb)]:=br.imI λ _ _ h=>h;generalize hK:six (Wx (b.ends o).1)=ky at dw ae ao a8
  let F0:Qa T->Prop:=λ U'=>U7.frz.lg U'/\U'.M=U7.M
  let F1:Qa T->Prop:=λ U'=>U7.frz.lg U'/\U'.M=[Bd,D]++(.obj b6 (.cells #[.int .i64 ((k:Int)+1)] 3 (0,0))::.obj F (.cells (Wb b k 0).toArray 3 (0,0))::.obj mb (Qt ZD (X1 ky (.int .i64 0) (QF (b.sc k))))::U.M)
  conv=>whnf
  intro ac a6
  refine Sf (mu:=[]) (ops:=GO Tryz.f57 7) (id:=7) a6 [3,5] [[0,1,2,3,4,5,6],[0,1,2,5,6,3,4]] [7] E3 Mz Qf K1 K1 K1 K1 K1
   (λ f' ct U'=>ct=[]/\Xr f' [(5,.pb b5),(7,.pb b7),(27,.map (some mb)),(31,.int .i64 ((JA ky (b.sc k):Nat)+1:Int)),(33,.int .i64 (XT ky (QF (b.sc k)):Nat))]/\F1 U') ?_ ?_
  .intro l hl;simp only[E3,mem_cons,not_mem_nil,or_false]at hl;rcases hl with rfl|rfl
   .skip
    refine⟨_,a0.sees3 (o:=0) rfl,_,⟨rfl,bd⟩,λ v U'=>v=.int .i64 (JA ky (b.sc k):Nat)/\F0 U',λ v U1 U2 G w=>⟨G.1,G.2.1.trans w.lg,w.own.trans G.2.2⟩,λ v U' G=>G.2.1,λ U' hC=>?_,λ v hv=>?_⟩
    .have H:U'.M=U7.M:=hC.own;have E:U7.frz.lg U':=⟨hC.imm,⟨_,(append_nil _).symm⟩,hC.tok⟩
     conv=>whnf
     refine YS (k:=ky) (l:=QF (b.sc k)) VD Pd HA rfl ae (.inr (by rw[H,al];simp)) ?_;rw[Y6];exact⟨_,.refl _,rfl,E,H⟩
    obtain⟨_,rfl,-⟩:=hv;refine⟨a8,λ v U'=>v=.tuple #[.int .i64 (JA ky (b.sc k):Nat),.int .i64 (XT ky (QF (b.sc k)):Nat)]/\F1 U',λ v U1 U2 G w=>⟨G.1,G.2.1.trans w.lg,w.own.trans G.2.2⟩,λ v U' G=>G.2.1,λ U' hC=>?_,λ v hv=>?_⟩
    .obtain⟨-,E,H⟩:=hC
     conv=>whnf
     refine DW (k:=ky) (l:=QF (b.sc k)) (z:=.int .i64 0) (M':=[Bd,D]++(.obj b6 (.cells #[.int .i64 ((k:Int)+1)] 3 (0,0))::.obj F (.cells (Wb b k 0).toArray 3 (0,0))::.obj mb (Qt ZD (X1 ky (.int .i64 0) (QF (b.sc k))))::U.M)) VD Pd HA rfl ae (by rw[H,al];exact .there (.there (.there (.there .here)))) ?_;rw[Y6];exact⟨_,.refl _,rfl,⟨E.imm,⟨_,(append_nil _).symm⟩,E.tok⟩,rfl⟩
    obtain⟨_,rfl,-⟩:=hv
    conv=>whnf
    rintro U'⟨-,G⟩;exact⟨rfl,T1,G⟩
   .skip
    refine⟨_,a0.sees3 (o:=0) rfl,_,⟨rfl,bd⟩,λ v U'=>v=.tuple #[.int .i64 (JA ky (b.sc k):Nat),.int .i64 (XT ky (QF (b.sc k)):Nat)]/\F1 U',λ v U1 U2 G w=>⟨G.1,G.2.1.trans w.lg,w.own.trans G.2.2⟩,λ v U' G=>G.2.1,λ U' hC=>?_,λ v hv=>?_⟩
    .have H:U'.M=U7.M:=hC.own;have E:U7.frz.lg U':=⟨hC.imm,⟨_,(append_nil _).symm⟩,hC.tok⟩
     conv=>whnf
     refine DW (k:=ky) (l:=QF (b.sc k)) (z:=.int .i64 0) (M':=[Bd,D]++(.obj b6 (.cells #[.int .i64 ((k:Int)+1)] 3 (0,0))::.obj F (.cells (Wb b k 0).toArray 3 (0,0))::.obj mb (Qt ZD (X1 ky (.int .i64 0) (QF (b.sc k))))::U.M)) VD Pd HA rfl ae (by rw[H,al];exact .there (.there (.there (.there .here)))) ?_;rw[Y6];exact⟨_,.refl _,rfl,⟨E.imm,⟨_,(append_nil _).symm⟩,E.tok⟩,rfl⟩
    obtain⟨_,rfl,-⟩:=hv;refine⟨λ v U'=>v=.int .i64 (JA ky (b.sc k):Nat)/\F1 U',λ v U1 U2 G w=>⟨G.1,G.2.1.trans w.lg,w.own.trans G.2.2⟩,λ v U' G=>G.2.1,λ U' hC=>?_,λ v hv=>?_⟩
    .obtain⟨-,E,H⟩:=hC
     conv=>whnf
     refine YS (k:=ky) (l:=X1 ky (.int .i64 0) (QF (b.sc k))) VD Pd HA rfl ae (.inr (by rw[H];simp)) ?_;rw[kV,Y6];exact⟨_,.refl _,rfl,E,H⟩
    obtain⟨_,rfl,-⟩:=hv;refine⟨a8,?_⟩
    conv=>whnf
    rintro U'⟨-,G⟩;exact⟨rfl,T1,G⟩
  rintro f' ct U8⟨rfl,da,X,bp⟩;rw[<- da.ovr];clear da;have dq:List Qw:=[Bd,D]++(.obj b6 (.cells #[.int .i64 ((k:Int)+1)] 3 (0,0))::.obj F (.cells (Wb b k 0).toArray 3 (0,0))::.obj mb (Qt ZD (QF (b.sc (k+1))))::U.M)
  conv=>whnf
  refine qr (n:=XT ky (QF (b.sc k))) (l:=X1 ky (.int .i64 0) (QF (b.sc k))) (v:=.int .i64 ((JA ky (b.sc k)+1:Nat):Int)) (M':=[Bd,D]++(.obj b6 (.cells #[.int .i64 ((k:Int)+1)] 3 (0,0))::.obj F (.cells (Wb b k 0).toArray 3 (0,0))::.obj mb (Qt ZD (QF (b.sc (k+1))))::U.M)) rfl rfl ao.2 rfl (by rw[bp,ao.1];exact .there (.there (.there (.there .here)))) ?_
  conv=>whnf
  intro a' bl;refine⟨by rw[bl.size,a6.size],_,bl.get,?_⟩;rw[bl.ds];clear bl a6;have bv:=au.imI X.imm;have bt:=bs.imI X.imm;have bo:∀x o,U₀.I x=some o->U8.I x=some o:=λ x o h=>X.imm x o (bf x o h);have b9:U8.tok=U₀.tok:=X.tok.trans di;generalize aq:({ U8 with M:=[Bd,D]++(.obj b6 (.cells #[.int .i64 ((k:Int)+1)] 3 (0,0))::.obj F (.cells (Wb b k 0).toArray 3 (0,0))::.obj mb (Qt ZD (QF (b.sc (k+1))))::U.M) }:Qa T)=U9;have cx:U9.M=[Bd,D]++(.obj b6 (.cells #[.int .i64 ((k:Int)+1)] 3 (0,0))::.obj F (.cells (Wb b k 0).toArray 3 (0,0))::.obj mb (Qt ZD (QF (b.sc (k+1))))::U.M):=by rw[<- aq]
  have cw:∀x o,U₀.I x=some o->U9.I x=some o:=by rw[<- aq];exact bo
  have c4:Zj U9 b7 (QP (.slice a o.length cap) (Wx (b.ends o).1) (J0 (b.ends o).2)).toArray:=by rw[<- aq];exact bv
  have bu:Zj U9 b5 #[.slice (some ⟨F,0,none⟩) h.cl h.cl]:=by rw[<- aq];exact bt
  have dh:U9.tok=U₀.tok:=by rw[<- aq];exact b9
  clear aq dq bp X bv bt bo b9 a0 bd br bs au al ay bf b8 di bg cf cq F0 F1;have d2:=b.ends_len o;have ec:J0 (b.ends o).2<2^5:=SG _ O1;have dj:J0 (b.ends o).2<2^60:=Nat.lt_trans ec D1;refine⟨_,bu.sees3 (o:=0) rfl,Nat,λ i=>[(5,.pb b5),(7,.pb b7),(35,.int .i64 h.cl),(36,.int .i64 i)],
   λ i U'=>U9.frz.lg U'/\U'.M=[Bd,D]++(.obj b6 (.cells #[.int .i64 ((k:Int)+1)] 3 (0,0))::.obj F (.cells (Wb b k i).toArray 3 (0,0))::.obj mb (Qt ZD (QF (b.sc (k+1))))::U.M)/\i<=h.cl,λ i=>h.cl-i,0,T1,⟨Qr,cx,O1⟩,?_⟩
  rintro i f Ua⟨Q,aa,hi⟩;have a7:Ja ((i:Int)+1):=I1
  repeat apply R1
  conv=>whnf
  apply Qg<;>intro hc
  .have av:i<h.cl:=by simpa using hc
   have es:=b.wc_le k i;have ag:=G9 (b:=b) (k:=k) (i:=i) (j:=i) O1;rw[if_neg O1]at ag
   have cr:Ua.sees ((Addr.mk F 0 none).add (i*1)) (.int .i64 (b.wc k i:Nat)):=by
    rw[Nat.mul_one];exact Q9 [Bd,D,_] aa i _ ag
   have ck:=kR dj (show i<60 by omega);rw[Pv]at ck
   have db:Ja ((b.wc k i:Nat)+IntKind.wrap .i64 ((BitVec.ofInt (IntKind.bits .i64) (Int.fdiv (J0 (b.ends o).2:Int) (2^(min ((i:Int).toNat) (IntKind.bits .i64))))&&&BitVec.ofInt (IntKind.bits .i64) 1).toNat:Int)):=by
    rw[ck];unfold Ja;split <;> omega
   have e2:((b.wc k i:Nat):Int)+IntKind.wrap .i64 ((BitVec.ofInt (IntKind.bits .i64) (Int.fdiv (J0 (b.ends o).2:Int) (2^(min ((i:Int).toNat) (IntKind.bits .i64))))&&&BitVec.ofInt (IntKind.bits .i64) 1).toNat:Int)=((b.wc (k+1) i:Nat):Int):=by
    rw[ck,b.wc_succ ho i];simp
   refine⟨_,(bu.imI Q.imm).sees3 (o:=0) rfl,⟨F,0,none⟩,i,⟨rfl,rfl,av⟩,_,cr,_,(c4.imI Q.imm).sees3 (o:=7) rfl,O1,rfl,?_⟩
   conv=>whnf
   intro Ub L _;have P:=L.own.trans aa;refine⟨db,?_⟩;rw[e2];refine⟨⟨F,0,none⟩,i,⟨rfl,rfl,av⟩,rfl,?_⟩;rw[Nat.mul_one];refine WJ (i:=i) (v:=.int .i64 (b.wc (k+1) i:Nat)) [Bd,D,_] P (by simp[Wb];omega) rfl λ Uc dl ea ap=>?_;rw[h_ b k i O1]at ap;have d1:U9.frz.lg Uc:=⟨λ x o h=>by rw[dl];exact L.imm x o (Q.imm x o h),⟨_,(append_nil _).symm⟩,ea.trans (L.tok.trans Q.tok)⟩;refine⟨a7,?_⟩
   conv=>whnf
   exact⟨rfl,i+1,T1,⟨d1,ap,O1⟩,L1⟩
  .have hge:i=b.cs.length:=by simp at hc;omega
   subst hge;rw[hS]at aa
   have e3:Ua=({ Ua with M:=.obj b6 (.cells #[.int .i64 ((k:Int)+1)] 3 (0,0))::.obj F (.cells (Wb b (k+1) 0).toArray 3 (0,0))::.obj mb (Qt ZD (QF (b.sc (k+1))))::U.M }:Qa T).on Bd D:=by
    obtain⟨i1,m1,t1⟩:=Ua;simp only[Qa.on]at aa ⊢;rw[aa];rfl
   have dc:U₀.frz.lg ({ Ua with M:=.obj b6 (.cells #[.int .i64 ((k:Int)+1)] 3 (0,0))::.obj F (.cells (Wb b (k+1) 0).toArray 3 (0,0))::.obj mb (Qt ZD (QF (b.sc (k+1))))::U.M }:Qa T):=⟨λ x o h=>Q.imm x o (cw x o h),⟨_,(append_nil _).symm⟩,Q.tok.trans dh⟩;have d0:=hl.frz2.trans dc
   conv=>whnf
   rw[e3];exact hKN _ _ _ dc ⟨d0,rfl⟩
 .rintro d l OA U3' ⟨hl,hM⟩;have cg:(U3'.on (.obj l OA) (.obj d (.deferred (some [])))).M=[.obj l OA,.obj d (.deferred (some []))]++(.obj b6 (.cells #[.int .i64 (b.all.length:Nat)] 3 (0,0))::.obj F (.cells (Wb b b.all.length 0).toArray 3 (0,0))::.obj mb (Qt ZD (QF (b.sc b.all.length)))::U.M):=by show _::_::U3'.M=_;rw[hM];rfl
  have ax:∀x o,U4.I x=some o->(U3'.on (.obj l OA) (.obj d (.deferred (some [])))).I x=some o:=hl.imm;have df:(U3'.on (.obj l OA) (.obj d (.deferred (some [])))).tok=U4.tok:=hl.tok;generalize(U3'.on (.obj l OA) (.obj d (.deferred (some []))))=N at cg ax df ⊢;have dk:Zj N B #[.slice h.ra h.rl h.rc,.slice h.ca h.cl h.cc]:=hB.imI λ x o h=>ax x o (aj.imm x o h);have c2:Zj N b4 #[.map (some mb)]:=bj.imI ax;have c3:Zj N b5 #[.slice (some ⟨F,0,none⟩) h.cl h.cl]:=bk.imI ax;have cv:∀x o,U.I x=some o->N.I x=some o:=λ x o h=>ax x o (bz.imm x o h);have dg:N.tok=U.tok:=df.trans d9;obtain⟨dd,an,b3⟩:=b.sc_facts b.all.length;rw[take_length]at b3;generalize aw:[.obj l OA,.obj d (.deferred (some []))]++(.obj b6 (.cells #[.int .i64 (b.all.length:Nat)] 3 (0,0))::.obj F (.cells (Wb b b.all.length 0).toArray 3 (0,0))::.obj mb (Qt ZD (QF (b.sc b.all.length)))::U.M)=Ba at cg;have bb:Qw.obj mb (Qt ZD (QF (b.sc b.all.length)))∈Ba:=by rw[<- aw];simp
  clear hl hM bm Inv;refine⟨_,dk.sees3 (o:=0) rfl,Nat×Value,λ y=>[(2,y.2),(3,.nl),(4,.pb b4),(5,.pb b5),(6,.pb b6),(54,.int .i64 h.rl),(55,.int .i64 y.1)],
   λ y U'=>N.frz.lg U'/\(∃A,U'.M=A++Ba/\Js 56 1 y.2 (((range y.1).map b.fatR).map λ n=>.int .i64 n) A)/\y.1<=h.rl,λ y=>h.rl-y.1,(0,.nl),T1,⟨Qr,⟨[],cg,.nil⟩,O1⟩,?_⟩
  rintro⟨r,v⟩f Ua⟨Q,⟨A,aa,Y⟩,hr⟩;simp only at Y hr;obtain⟨sa,sl,sc,rfl,ep⟩:=Y.src;have a7:Ja ((r:Int)+1):=I1
  repeat apply R1
  conv=>whnf
  apply Qg<;>intro hc
  .have hrt:r<h.rl:=by simpa using hc
   have ak:r<6:=O1
   refine⟨_,(c2.imI Q.imm).sees3 (o:=0) rfl,?_⟩
   conv=>whnf
   refine Oo (enc:=ZD) (l:=QF (b.sc b.all.length)) Pd rfl (.inr (by rw[aa];exact mem_append_right _ bb)) λ it ei=>?_
   refine⟨Array Nat,λ seen=>[(2,.slice sa sl sc),(3,.nl),(4,.pb b4),(5,.pb b5),(6,.pb b6),(9,.int .i64 r),(10,.int .i64 (Xe (λ k:WN=>Wx k.1 r) (b.sc b.all.length) seen.toList:Nat)),(54,.int .i64 h.rl),(55,.int .i64 r),(59,.pb it)],
    λ seen U'=>N.frz.lg U'/\U'.M=.obj it (Jx mb (QF (b.sc b.all.length)).length seen)::(A++Ba)/\seen.toList.Nodup/\∀i∈seen.toList,i<(b.sc b.all.length).length,λ seen=>(b.sc b.all.length).length-seen.size,#[],T1,⟨Q.trans (Z2 _ _),by show _::Ua.M=_;rw[aa],S1,S1⟩,?_⟩
   rintro seen f Ub⟨L,P,co,av⟩
   have d8:seen.size<=(b.sc b.all.length).length:=by
    have:=XJ co av;simpa using this
   have ej:=Lc (q:=λ k:WN=>Wx k.1 r) an seen.toList;have d4:seen.toList.length*b.all.length<=3125*3125:=Nat.mul_le_mul (by rw[Array.length_toList];omega) hN
   conv=>whnf
   refine S7 (enc:=ZD) (l:=QF (b.sc b.all.length)) (λ o=>.obj it o::(A++Ba)) rfl (.inr (by rw[P];exact mem_cons_of_mem _ (mem_append_right _ bb))) (λ o=>by rw[P];exact .here) (λ c1=>?_) (λ i p hp d6=>?_)
   .have hfin:Xe (λ k:WN=>Wx k.1 r) (b.sc b.all.length) seen.toList=b.all.countP λ o=>(b.ends o).1.getD r false:=by
     rw[pA co av (λ i hi=>by have:=c1 i (by rw[kz];exact hi);simpa using this),b3];congr 1;funext o;exact Lv _ ak
    have be:XZ (Xe (λ k:WN=>Wx k.1 r) (b.sc b.all.length) seen.toList) b.all.length=b.fatR r:=by rw[hfin];rfl
    have du:=Q9 (U:=Ub) (b:=b6) (e:=3) (vs:=[.int .i64 (b.all.length:Nat)]) (.obj it (Jx mb (QF (b.sc b.all.length)).length seen)::(A++[.obj l OA,.obj d (.deferred (some []))])) (by rw[P,<- aw];simp;rfl)
    repeat apply R1
    refine⟨_,du 0 _ rfl,OG.any,(E5 _ _).go λ _=>?_⟩;rw[be]
    conv=>whnf
    intro bn cm;refine zJ (M':=A++Ba) cm (by rw[P];exact sublist_cons_self ..) λ Ud dm eb dr ai=>?_;have ai:Zj Ud bn #[.int .i64 (b.fatR r)]:=ai;have a9:N.frz.lg Ud:=⟨λ x o h=>dm x o (L.imm x o h),⟨_,(append_nil _).symm⟩,eb.trans L.tok⟩
    conv=>whnf
    refine Wn (v:=.slice sa sl sc) (cs:=((range r).map b.fatR).map λ n=>.int .i64 n) (new:=[.int .i64 (b.fatR r)]) (M₀:=Ba) I0 rfl rfl (by rw[dr];exact Y _) (.inr ⟨_,rfl,ai.rd⟩) rfl (by simp[Value.single]) S3 λ v' M' ah _=>?_;have ah:Acc 56 1 v' (((range (r+1)).map b.fatR).map λ n=>.int .i64 n) M' Ba:=by rw[range_succ];simpa using ah
    obtain⟨ce,H,ad⟩:=ah.split;obtain⟨ta,tl,tc,rfl,-⟩:=ad.src;refine⟨a7,?_⟩
    conv=>whnf
    exact⟨rfl,(r+1,.slice ta tl tc),T1,⟨⟨a9.imm,⟨_,(append_nil _).symm⟩,a9.tok⟩,⟨ce,H,ad⟩,by show r+1<=h.rl;omega⟩,L1⟩
   .obtain⟨q,hq,rfl⟩:=kM hp;have en:q.2<=3125:=Nat.le_trans (an q (mem_of_getElem? hq)) hN;have dy:=(List.getElem?_eq_some_iff.1 hq).1;have ab:=wM (q:=λ k:WN=>Wx k.1 r) (seen:=seen) hq
    have bc:(seen.push i).toList.Nodup:=by
     rw[Array.toList_push,nodup_append];refine⟨co,S1,λ x hx y hy=>?_⟩;rw[mem_singleton.1 hy];rintro rfl;exact d6 (by simpa using hx)
    have ba:∀j∈(seen.push i).toList,j<(b.sc b.all.length).length:=by
     intro j hj;rw[Array.toList_push,mem_append]at hj;rcases hj with hj|hj
     .exact av j hj
     .rw[mem_singleton.1 hj];exact dy
    have bx:(b.sc b.all.length).length-(seen.push i).size<(b.sc b.all.length).length-seen.size:=by
     have:=XJ bc ba;rw[Array.length_toList,Array.size_push]at this;rw[Array.size_push];omega
    have b0:N.frz.lg ({ Ub with M:=.obj it (Jx mb (QF (b.sc b.all.length)).length (seen.push i))::(A++Ba) }:Qa T):=⟨L.imm,⟨_,(append_nil _).symm⟩,L.tok⟩;generalize cz:({ Ub with M:=.obj it (Jx mb (QF (b.sc b.all.length)).length (seen.push i))::(A++Ba) }:Qa T)=Uc at b0 ⊢;have ap:Uc.M=.obj it (Jx mb (QF (b.sc b.all.length)).length (seen.push i))::(A++Ba):=by rw[<- cz]
    clear cz
    repeat apply R1
    conv=>whnf
    refine On (enc:=ZD) (l:=QF (b.sc b.all.length)) rfl (.inr (by rw[ap];exact mem_cons_of_mem _ (mem_append_right _ bb))) (.inr (by rw[ap];exact mem_cons_self ..)) hp ?_
    conv=>whnf
    intro ek c5;refine⟨_,.refl _,rfl,Zv (vs:=QL (Wx q.1.1)) c5 rfl (YK _) λ Ud dt am=>?_⟩;refine⟨_,⟨rfl,am.rd⟩,?_⟩
    conv=>whnf
    intro el c6;refine⟨_,.refl _,rfl,HC (vs:=QL (Wx q.1.1)) rfl (YK _) ?_⟩;refine⟨r,⟨rfl,ak⟩,rfl,?_⟩;rw[Nat.mul_one];refine kx (c:=(QL (Wx q.1.1)).toArray) (v:=.bool true) c6 ak rfl λ Ue c0 bq=>?_;rw[De _ ak]at bq;have am:=am.le c0;have b2:=dt.trans c0;refine⟨_,⟨rfl,am.rd⟩,?_⟩;refine⟨_,⟨rfl,bq.rd⟩,?_⟩
    conv=>whnf
    obtain⟨eT,eh,a1,a2,a3,a4,a5⟩:=O9.h;refine vD a1 a2 rfl a3 a4 a5 (vs:=QL (Wx q.1.1)) (ws:=QL (XY (Wx q.1.1) r true)) rfl rfl rfl rfl (Oq _) (Oq _) ?_;rw[vR ak];have cy:=b2.own.trans ap;have b1:N.frz.lg Ue:=b0.trans b2.lg;cases de:Wx q.1.1 r with
    |true=>
     rw[if_pos de]at ab;refine⟨I1,?_⟩
     conv=>whnf
     exact⟨rfl,seen.push i,⟨rfl,rfl,rfl,rfl,rfl,rfl,by rw[ab];rfl,rfl,rfl,rfl,trivial⟩,⟨b1,cy,bc,ba⟩,bx⟩
    |false=>
     rw[if_neg (by rw[de];simp),Nat.add_zero]at ab
     conv=>whnf
     exact⟨rfl,seen.push i,⟨rfl,rfl,rfl,rfl,rfl,rfl,by rw[ab];rfl,rfl,rfl,rfl,trivial⟩,⟨b1,cy,bc,ba⟩,bx⟩
  .have hge:r=b.rs.length:=by simp at hc;omega
   subst hge;have Y:Js 56 1 (.slice sa sl sc) (b.fatesR.map λ n=>.int .i64 n) A:=Y;refine⟨_,(c3.imI Q.imm).sees3 (o:=0) rfl,Nat×Value,λ y=>[(2,.slice sa sl sc),(3,y.2),(6,.pb b6),(81,.slice (some ⟨F,0,none⟩) h.cl h.cl),(82,.int .i64 h.cl),(83,.int .i64 y.1)],
    λ y U'=>N.frz.lg U'/\(∃A2,U'.M=A2++(A++Ba)/\Js 56 1 y.2 (((range y.1).map b.fatC).map λ n=>.int .i64 n) A2)/\y.1<=h.cl,λ y=>h.cl-y.1,(0,.nl),T1,⟨Q,⟨[],aa,.nil⟩,O1⟩,?_⟩
   rintro⟨i,v⟩f Ub⟨L,⟨A2,P,K⟩,hi⟩;simp only at K hi;obtain⟨ua,ul,uc,rfl,er⟩:=K.src;have a7:Ja ((i:Int)+1):=I1
   repeat apply R1
   conv=>whnf
   apply Qg<;>intro hc
   .have bm:i<h.cl:=by simpa using hc
    have d7:=Q9 (U:=Ub) (b:=F) (e:=3) (vs:=Wb b b.all.length 0) (A2++A++[.obj l OA,.obj d (.deferred (some [])),.obj b6 (.cells #[.int .i64 (b.all.length:Nat)] 3 (0,0))]) (by rw[P,<- aw];simp;rfl);have ak:=Q9 (U:=Ub) (b:=b6) (e:=3) (vs:=[.int .i64 (b.all.length:Nat)]) (A2++A++[.obj l OA,.obj d (.deferred (some []))]) (by rw[P,<- aw];simp;rfl);have ag:=G9 (b:=b) (k:=b.all.length) (i:=0) (j:=i) O1;rw[if_neg O1]at ag
    have cr:Ub.sees ((Addr.mk F 0 none).add (i*1)) (.int .i64 (b.wc b.all.length i:Nat)):=by
     rw[Nat.mul_one];exact d7 i _ ag
    have be:XZ (b.wc b.all.length i) b.all.length=b.fatC i:=by unfold Bk.wc;rw[take_length];rfl
    refine⟨⟨F,0,none⟩,i,⟨rfl,rfl,bm⟩,_,cr,_,ak 0 _ rfl,OG.any,(E5 _ _).go λ _=>?_⟩;rw[be]
    conv=>whnf
    intro bn cm;refine Zi cm λ Ud hd ai=>?_;have ai:Zj Ud bn #[.int .i64 (b.fatC i)]:=ai;have a9:=L.trans hd.lg
    conv=>whnf
    refine Wn (v:=.slice ua ul uc) (cs:=((range i).map b.fatC).map λ n=>.int .i64 n) (new:=[.int .i64 (b.fatC i)]) (M₀:=A++Ba) I0 rfl rfl (by rw[hd.own,P];exact K _) (.inr ⟨_,rfl,ai.rd⟩) rfl (by simp[Value.single]) S3 λ v' M' ah _=>?_;have ah:Acc 56 1 v' (((range (i+1)).map b.fatC).map λ n=>.int .i64 n) M' (A++Ba):=by rw[range_succ];simpa using ah
    obtain⟨ce,H,ad⟩:=ah.split;obtain⟨ta,tl,tc,rfl,-⟩:=ad.src;refine⟨a7,?_⟩
    conv=>whnf
    exact⟨rfl,(i+1,.slice ta tl tc),T1,⟨⟨a9.imm,⟨_,(append_nil _).symm⟩,a9.tok⟩,⟨ce,H,ad⟩,by show i+1<=h.cl;omega⟩,L1⟩
   .have hge:i=b.cs.length:=by simp at hc;omega
    subst hge;have K:Js 56 1 (.slice ua ul uc) (b.fatesC.map λ n=>.int .i64 n) A2:=K;subst aw;refine⟨A2++(A++([.obj l OA,.obj d (.deferred none),.obj b6 (.cells #[.int .i64 (b.all.length:Nat)] 3 (0,0)),.obj F (.cells (Wb b b.all.length 0).toArray 3 (0,0)),.obj mb (Qt ZD (QF (b.sc b.all.length)))]++U.M)),by rw[P];exact P0 (P0 (.there .here) _) _,?_⟩
    conv=>whnf
    exact⟨_,_,_,_,rfl,K _,Y _,λ x o hx=>L.imm x o (cv x o hx),L.tok.trans dg⟩
 .exact λ _ _ _ _ _ h=>h.elim
 .exact λ _ _ _ _ h=>h.elim
end
variable{B:Int}
def Jw.nil:Jw U .nl []:=⟨none,0,rfl,rfl,λ i x h=>by simp at h⟩
def BH.zero:BH:=⟨none,0,0,none,0,0⟩
def Bk.askF(b:Bk)(r:Int):Int:=if b.flaw Zh=0 then(if QR r 0 (b.nr-1)then 0 else 6)else b.flaw Zh
def Bk.askF_ok(h:b.askF B=0):b.Ok/\0<=B/\B<b.nr:=by
 unfold Bk.askF at h;split at h
 .rename_i h1;split at h
  .rename_i h2;simp only[QR,Bool.and_eq_true,decide_eq_true_eq]at h2;exact⟨Bk.ok_of h1,O1,O1⟩
  .cases h
 .rename_i h1;exact absurd h h1
section
attribute [local irreducible] Qb Zp Wv
def qD(h:BH)(b:Bk)(P:Zq U.frz h b)(hk:JY U):Qb S 15 #[h.v] (λ v U'=>(∃w z,v=.tuple #[w,z,.int .i64 (b.flaw Zh)]/\Jw U'.frz w (if b.flaw Zh=0 then b.fatesR else[])/\Jw U'.frz z (if b.flaw Zh=0 then b.fatesC else[]))/\U.le U') U:=by
 refine Qb.grown (R:=λ v U'=>∃w z,v=.tuple #[w,z,.int .i64 (b.flaw Zh)]/\Jw U' w (if b.flaw Zh=0 then b.fatesR else[])/\Jw U' z (if b.flaw Zh=0 then b.fatesC else[])) (λ v N V T⟨w,z,e,G,H⟩=>⟨w,z,e,G.lg T,H.lg T⟩) (Qb.of (args:=[_]) Uq Qf S1 ?_)
 repeat apply R1
 conv=>whnf
 intro B N f F;have F:Zj N B #[.slice h.ra h.rl h.rc,.slice h.ca h.cl h.cc]:=F;refine⟨_,⟨rfl,F.rd⟩,?_⟩;refine⟨K6.any,(Yt h b ((P.lg f.lg.frz2).lg Qr) (hk.lg f.lg)).go λ _=>?_⟩
 repeat apply R1
 conv=>whnf
 apply Qg<;>intro Q
 .have E:b.flaw Zh≠0:=by simpa using Q
  repeat apply R1
  conv=>whnf
  rw[if_neg E,if_neg E];exact⟨⟨_,_,rfl,.nil,.nil⟩,f.lg⟩
 have E:b.flaw Zh=0:=by simpa using Q
 rw[if_pos E,if_pos E,E];refine⟨_,⟨rfl,F.rd⟩,?_⟩;refine⟨Oz.any,(DF h b (P.lg f.lg.frz2) (Bk.ok_of E)).mono ?_⟩;rintro _ V⟨⟨w,z,rfl,K,L⟩,I⟩-;obtain⟨W,Y,rfl,G⟩:=K;obtain⟨X,Z,rfl,H⟩:=L
 repeat apply R1
 conv=>whnf
 exact⟨⟨_,_,rfl,⟨W,Y,rfl,G⟩,⟨X,Z,rfl,H⟩⟩,(f.trans I).lg⟩
def PY(h:BH)(b:Bk)(K:Zq U.frz h b)(X:JY U)(r:Int):Qb S 58 #[h.v,.int .i64 r] (λ v U'=>v=.tuple #[(if b.askF r=0 then h else BH.zero).v,.int .i64 (b.askF r)]/\U'=U) U:=by
 refine Qb.pure' (Qb.of (args:=[_,_]) Pk Qf S1 ?_);have N:=K.rs.1;have T:=K.rl;have L:b.nr=(h.rl:Int):=by unfold Bk.nr;rw[N]
 repeat apply R1
 conv=>whnf
 intro B V f H;have H:Zj V B #[.slice h.ra h.rl h.rc,.slice h.ca h.cl h.cc]:=H
 conv=>whnf
 intro b4 F;refine⟨_,.refl _,?_⟩;have E:=H.lg (Z2 b4 (.cells #[.nl,.nl] 111));refine⟨_,⟨rfl,E.rd⟩,?_⟩;refine⟨K6.any,(Yt h b (((K.lg f.lg.frz2).lg Qr).lg (Z2 b4 _)) ((X.lg f.lg).lg (Z2 b4 _))).go λ _=>?_⟩
 repeat apply R1
 conv=>whnf
 apply Qg<;>intro Q
 .have G:b.flaw Zh≠0:=by simpa using Q
  have I:b.askF r=b.flaw Zh:=by unfold Bk.askF;rw[if_neg G]
  rw[I,if_neg G];refine⟨rfl,Zv (vs:=[.nl,.nl]) F rfl (by simp[Value.single]) λ P w z=>?_⟩;refine⟨_,⟨rfl,z.rd⟩,?_⟩
  conv=>whnf
  exact⟨rfl,(f.trans w).lg⟩
 have G:b.flaw Zh=0:=by simpa using Q
 have I:b.askF r=if QR r 0 ((h.rl:Int)-1)then 0 else 6:=by unfold Bk.askF;rw[if_pos G,L]
 rw[I];refine⟨_,E.sees3 (o:=0) rfl,I1,?_⟩;refine⟨G3.any,(Wo _ _ _ _).go λ _=>?_⟩;cases W:QR r 0 ((h.rl:Int)-1)with
 |false=>
  refine⟨rfl,Zv (vs:=[.nl,.nl]) F rfl (by simp[Value.single]) λ P w z=>?_⟩;refine⟨_,⟨rfl,z.rd⟩,?_⟩
  conv=>whnf
  exact⟨rfl,(f.trans w).lg⟩
 |true=>
  refine⟨_,⟨rfl,E.rd⟩,?_⟩;refine⟨rfl,Zv (vs:=[.slice h.ra h.rl h.rc,.slice h.ca h.cl h.cc]) F rfl (by simp[Value.single]) λ P w z=>?_⟩;refine⟨_,⟨rfl,z.rd⟩,?_⟩
  conv=>whnf
  exact⟨rfl,(f.trans w).lg⟩
def P_(h:BH)(b:Bk)(Q:Zq U.frz h b)(E:b.Ok)(r:Nat)(T:r<b.rs.length):Qb S 60 #[h.v,.int .i64 r] (λ v U'=>v=.int .i64 (b.fatR r)/\U'=U) U:=by
 refine Qb.pure' (Qb.of (args:=[_,_]) G4 Qf S1 ?_)
 repeat apply R1
 conv=>whnf
 intro B L f w;have w:Zj L B #[.slice h.ra h.rl h.rc,.slice h.ca h.cl h.cc]:=w;refine⟨_,⟨rfl,w.rd⟩,?_⟩;refine⟨Oz.any,(DF h b (Q.lg f.lg.frz2) E).mono ?_⟩;rintro _ W⟨⟨v1,v2,rfl,F,G⟩,z⟩-;obtain⟨X,Z,rfl,P⟩:=F;obtain⟨Y,c2,rfl,h2⟩:=G;have K:b.fatesR.length=b.rs.length:=by simp[Bk.fatesR]
 obtain⟨N,x,H,rfl,-,V⟩:=P.at (show r<b.fatesR.length by omega)
 have I:x=b.fatR r:=by
  unfold Bk.fatesR at H;rw[getElem?_map,getElem?_range T]at H;exact(Option.some.inj H).symm
 subst I
 repeat apply R1
 refine⟨N,r,⟨rfl,rfl,O1⟩,_,V.lg Qr,?_⟩
 repeat apply R1
 conv=>whnf
 exact(f.trans z).lg
end
variable{a:Option Addr}{j:List Bool}{cap:Nat}
def WK(U:Qa T)(v:Value)(l:List Bool):Prop:=∃a cap,v=.slice a l.length cap/\∀(i:Nat)x,l[i]?=some x->∃b,a=some b/\b.spot=none/\U.sees (b.add (i*1)) (.bool x)
def WK.lg{U':Qa T}{v:Value}{l:List Bool}(h:WK U v l)(k:U.lg U'):WK U' v l:=let ⟨a,c,e,h⟩:=h;⟨a,c,e,λ i x b=>let ⟨ad,e',s,r⟩:=h i x b;⟨ad,e',s,r.lg k⟩⟩
def WK.nil:WK U .nl []:=⟨none,0,rfl,λ i x h=>by simp at h⟩
def xw(h:Src U a (j.map .bool))(f:∀b,a=some b->b.spot=none):WK U (.slice a j.length cap) j:=by
 refine⟨a,cap,rfl,λ i x z=>?_⟩;rcases h with⟨_,w⟩|⟨b,rfl,B⟩
 .rw[map_eq_nil_iff]at w;subst w;simp at z
 .exact⟨b,rfl,f b rfl,by rw[Nat.mul_one];exact B i _ (by simp[z])⟩
def Zj.bools{l:List Bool}(h:Zj U n c)(f:∀(i:Nat)(x:Bool),l[i]?=some x->c[i]?=some (.bool x)):WK U (.slice (some ⟨n,0,none⟩) l.length cap) l:=
 ⟨_,_,rfl,λ i x w=>⟨_,rfl,rfl,by rw[Nat.mul_one,Qo];exact h.sees (by rw[Nat.zero_add];exact f i x w)⟩⟩
def Bk.ordL_cons(b:Bk)(o:List Nat)(i:Int)(l:List Int):b.ordL o (i::l)=if QR i 0 (b.nc-1)then(if i.toNat∈o then 5 else if(Jf b.A i.toNat).all (λ k=>o.contains k)then b.ordL (o++[i.toNat]) l else 7)else 6:=rfl
def Bk.outF(b:Bk)(l:List Int):Int:=if b.flaw Zh=0 then b.ordF l else b.flaw Zh
def ji(w:List Bool):((range w.length).map λ k=>Value.bool ((J0 w).testBit k))=w.map .bool:=by
 apply ext_getElem?;intro i;rw[getElem?_map,getElem?_map];by_cases h:i<w.length
 .rw[getElem?_range h,getElem?_eq_getElem h];simp[Pv,getD_eq_getElem?_getD,getElem?_eq_getElem h]
 .rw[getElem?_eq_none S3,getElem?_eq_none O1];rfl
def Qb.lists2g{R:Value->Qa T->Prop}(V:∀v H K,H.lg K->R v H->R v K)
  (h:Qb d f args (λ v U'=>∃w G A,v=.tuple (w::G::rest).toArray/\R w U'.frz/\Acc e 1 G cs U'.M (A++U.M)/\(∀x N,U.I x=some N->U'.I x=some N)/\U'.tok=U.tok) U) :
  Qb d f args (λ v U'=>(∃w a len cap,v=.tuple (w::.slice a len cap::rest).toArray/\R w U'.frz/\cs.length=len/\Src U'.frz a cs/\∀L,a=some L->L.spot=none)/\U.le U') U:=by
 refine h.sep λ v U' W⟨w,G,A,Y,P,E,Q,X⟩=>?_;obtain⟨M',b,E⟩:=E.letgo;obtain⟨U'',k1,B,a,len,cap,rfl,hl,z,F,_⟩:=E.freeze (U:={ U' with M:=U.M }) (U':={ U' with M:=M' }) (W.sublist b) (λ _ _ h=>h) rfl;have Z:U'.frz.lg U''.frz:=⟨B.imm,⟨[],rfl⟩,B.tok⟩;exact⟨U'',(Zz b).trans k1,⟨w,a,len,cap,Y,V _ _ _ Z P,O1,z,F⟩,⟨λ x o h=>B.imm x o (Q x o h),B.own,B.tok.trans X⟩⟩
section
attribute [local irreducible] Qb Zp Wv
def Ds(h:BH)(b:Bk)(hb:Zq U.frz h b)(hk:JY U)(a:Option Addr)(len cap:Nat)(l:List Int)(hl:Z3 U.frz a len l)(cx:len<2^60) :
  Qb S 14 #[h.v,.slice a len cap] (λ v U'=>(∃v1 v2,v=.tuple #[v1,v2,.int .i64 (b.outF l)]/\WK U'.frz v1 (if b.outF l=0 then(b.ends (l.map Int.toNat)).1 else[])/\WK U'.frz v2 (if b.outF l=0 then(b.ends (l.map Int.toNat)).2 else[]))/\U.le U') U:=by
 refine(Qb.lists2g (e:=4) (cs:=(if b.outF l=0 then(b.ends (l.map Int.toNat)).2 else[]).map .bool) (R:=λ v U'=>WK U' v (if b.outF l=0 then(b.ends (l.map Int.toNat)).1 else[])) (rest:=[.int .i64 (b.outF l)]) (λ v U1 U2 hl h=>h.lg hl) (Qb.of (args:=[_,_]) OQ Qf S1 ?_)).post λ v U'⟨⟨v1,a,len,cap,e,h1,h2,h3,h4⟩,H⟩=>⟨U',.refl _,⟨v1,_,e,h1,by rw[length_map]at h2;rw[<- h2];exact xw h3 h4⟩,H⟩;have cg:=hb.cs.1;have c3:=hb.rs.1;have c1:=hl.1
 repeat apply R1
 conv=>whnf
 intro B U1 L hB;have hB:Zj U1 B #[.slice h.ra h.rl h.rc,.slice h.ca h.cl h.cc]:=hB;refine⟨_,⟨rfl,hB.rd⟩,?_⟩;refine⟨K6.any,(Yt h b ((hb.lg L.lg.frz2).lg Qr) (hk.lg L.lg)).go λ _=>?_⟩
 repeat apply R1
 conv=>whnf
 apply Qg<;>intro hc
 .have hf:b.flaw Zh≠0:=by simpa using hc
  have hF:b.outF l=b.flaw Zh:=by unfold Bk.outF;rw[if_neg hf]
  rw[hF,if_neg hf,if_neg hf]
  repeat apply R1
  conv=>whnf
  exact⟨_,_,[],rfl,.nil,by rw[L.own];exact .nil,L.imm,L.tok⟩
 have hf:b.flaw Zh=0:=by simpa using hc
 have hF:b.outF l=b.ordF l:=by unfold Bk.outF;rw[if_pos hf]
 have ap:=Bk.ok_of hf;have c2:=ap.nc;have ct:=ap.nr;rw[hF];refine⟨_,hB.sees3 (o:=1) rfl,?_⟩
 repeat apply R1
 conv=>whnf
 apply Qg<;>intro hc
 .have hne:l.length≠b.cs.length:=by simp at hc;omega
  have a7:b.ordF l=2:=by unfold Bk.ordF;rw[if_pos hne]
  rw[a7]
  repeat apply R1
  conv=>whnf
  exact⟨_,_,[],rfl,.nil,by rw[L.own];exact .nil,L.imm,L.tok⟩
 have cz:l.length=b.cs.length:=by simp at hc;omega
 have a7:b.ordF l=b.ordL [] l:=by unfold Bk.ordF;rw[if_neg O1]
 rw[a7];refine⟨_,⟨rfl,hB.rd⟩,?_⟩
 conv=>whnf
 intro b8 ck;refine⟨_,.refl _,rfl,Zv (vs:=[.slice h.ra h.rl h.rc,.slice h.ca h.cl h.cc]) ck rfl (by simp[Value.single]) λ U2 bg bi=>?_⟩;have z:=L.trans bg;refine⟨_,⟨rfl,bi.rd⟩,?_⟩;refine⟨OV.any,(E0 h b ((hb.lg z.lg.frz2).lg Qr) ct).go λ _=>?_⟩;have cu:J0 b.ini.2=0:=Ix _
 conv=>whnf
 intro b9 c0;refine⟨_,.refl _,rfl,HC (vs:=QP .nl (Wx b.ini.1) 0) rfl (by simp[QP,Value.single]) ?_⟩;have b1:Zj U2 B #[.slice h.ra h.rl h.rc,.slice h.ca h.cl h.cc]:=hB.le bg;have ah:U.frz.lg U2.frz:=z.lg.frz2
 refine⟨Nat×Option Addr×Nat,λ y=>[(1,.slice a len cap),(2,.pb B),(8,.pb b8),(9,.pb b9),(28,.slice a len cap),(29,.int .i64 len),(30,.int .i64 y.1)],
  λ y U'=>U2.frz.lg U'/\U'.M=.obj b9 (.cells (QP (.slice y.2.1 y.1 y.2.2) (Wx (b.ends ((l.take y.1).map Int.toNat)).1) (J0 (b.ends ((l.take y.1).map Int.toNat)).2)).toArray 116 (0,0))::U.M/\y.1<=len/\Z3 U'.frz y.2.1 y.1 (((l.take y.1).map Int.toNat).map λ(k:Nat)=>(k:Int))/\y.1<=y.2.2/\(∀ad,y.2.1=some ad->ad.spot=none)/\(∀k∈(l.take y.1).map Int.toNat,k<b.cs.length)/\b.ordL [] l=b.ordL ((l.take y.1).map Int.toNat) (l.drop y.1),
  λ y=>len-y.1,(0,none,0),T1,⟨⟨λ _ _ h=>h,⟨_,(append_nil _).symm⟩,rfl⟩,?_,O1,⟨rfl,λ i x K=>by simp at K⟩,Nat.le_refl _,S1,S1,rfl⟩,?_⟩
 .show _::U2.M=_;rw[z.own];show _=Qw.obj b9 (.cells (QP .nl (Wx b.ini.1) (J0 b.ini.2)).toArray 116 (0,0))::U.M;rw[cu]
 rintro⟨i,xa,xc⟩f U3⟨Q,hM,hi,am,bt,bu,V,w⟩;simp only at hM hi am bt bu V w;have co:Ja ((i:Int)+1):=I1
 have an:Zj U3 B #[.slice h.ra h.rl h.rc,.slice h.ca h.cl h.cc]:=b1.imI Q.imm;have bj:Zj U3 b8 #[.slice h.ra h.rl h.rc,.slice h.ca h.cl h.cc]:=bi.imI Q.imm;have ae:=Q9 [] hM;have ak:((l.take i).map Int.toNat).length=i:=by rw[length_map,length_take];omega
 have bd:∀n∈((l.take i).map Int.toNat).map (λ(k:Nat)=>(k:Int)),0<=n/\n<60:=by
  intro n hn;obtain⟨k,hk,rfl⟩:=mem_map.1 hn;have:=V k hk;omega
 repeat apply R1
 conv=>whnf
 apply Qg<;>intro hc
 .have hlt:i<len:=by simpa using hc
  obtain⟨ad,n,K,rfl,c4,hs⟩:=((hl.lg (ah.trans Q.frz2)).lg Qr).at hlt;rw[Ha K,b.ordL_cons]at w;refine⟨ad,i,⟨rfl,rfl,hlt⟩,_,hs,_,an.sees3 (o:=1) rfl,I1,?_⟩;refine⟨G3.any,(Wo _ _ _ _).go λ _=>?_⟩;have bo:b.nc=(h.cl:Int):=by unfold Bk.nc;rw[cg]
  rw[bo]at w
  have bad:∀(ab:Qa T)(F:Int),U3.le ab->F≠0->b.ordL [] l=F->∃v1 v2 A,Value.tuple #[.nl,.nl,.int .i64 F]=.tuple (v1::v2::[Value.int .i64 (b.ordL [] l)]).toArray/\WK ab.frz v1 (if b.ordL [] l=0 then(b.ends (l.map Int.toNat)).1 else[])/\Acc 4 1 v2 ((if b.ordL [] l=0 then(b.ends (l.map Int.toNat)).2 else[]).map .bool) ab.M (A++U.M)/\(∀x ox,U.I x=some ox->ab.I x=some ox)/\ab.tok=U.tok:=by
   intro ab F h3 h0 e;rw[e,if_neg h0,if_neg h0];exact⟨_,_,[_],rfl,.nil,by rw[h3.own,hM];exact .nil,λ x o K=>h3.imm x o (Q.imm x o (z.imm x o K)),h3.tok.trans (Q.tok.trans z.tok)⟩
  cases a8:QR n 0 ((h.cl:Int)-1)with
  |false=>
   rw[a8]at w;have:=bad _ 6 (.refl _) D1 w
   repeat apply R1
   conv=>whnf
   exact this
  |true=>
  rw[if_pos a8]at w
  have cr:0<=n/\n<h.cl:=by
   simp only[QR,Bool.and_eq_true,decide_eq_true_eq]at a8;omega
  obtain⟨k,rfl⟩:=Int.eq_ofNat_of_zero_le cr.1;rw[Int.toNat_natCast]at w;have bl:k<h.cl:=O1
  have a9:(((l.take i).map Int.toNat).map λ(k:Nat)=>(k:Int)).contains (k:Int)=decide (k∈(l.take i).map Int.toNat):=by
   rw[Bool.eq_iff_iff,contains_iff_mem,decide_eq_true_eq,mem_map];constructor
   .rintro⟨k',h1,h2⟩
    rwa [<- Int.ofNat.inj h2]
   .exact λ h=>⟨k,h,rfl⟩
  refine⟨_,ae.cell (i:=0) rfl,OW.any,(Dl xa i xc _ (am.lg Qr) O1 (k:Int)).go λ _=>?_⟩;rw[a9];by_cases Z:k∈(l.take i).map Int.toNat
  .rw[if_pos Z]at w;rw[decide_eq_true Z];have:=bad _ 5 (.refl _) D1 w
   repeat apply R1
   conv=>whnf
   exact this
  rw[if_neg Z]at w;rw[decide_eq_false Z];obtain⟨b0,c,ga,gl,gc,aa,al,ac,ch,cj,cy,bq,-,-,ha,b3,bm⟩:=(hb.lg (ah.trans Q)).case bl;have W:=ap.toLow.lt bm;have b4:=Bk.aft1_at ch;have ao:=λ U'(H:U3.le U')=>Z8 (S:=S) (U:=U') aa al ac c.af (ha.lg H.lg) b3 W;have P:=Z8 (S:=S) (U:=U3) xa i xc _ (am.lg Qr) O1 bd;rw[Og]at P;have b6:Z5 (c.af.map Int.toNat)<2^60:=H6 (toNat_lt W);have ce:Z5 ((l.take i).map Int.toNat)<2^60:=H6 λ x K=>by have:=V x K;omega
  have key:_↔(Jf b.A k).all (λ k=>(Z5 ((l.take i).map Int.toNat)).testBit k)=true:=(Sd b6 ce).trans ((Sc W).trans (by rw[b4]))
  have bz:(Jf b.A k).all (λ j=>(Z5 ((l.take i).map Int.toNat)).testBit j)=(Jf b.A k).all λ j=>((l.take i).map Int.toNat).contains j:=by
   congr 1;funext j;exact Wt _ j
  rw[bz]at key;refine⟨_,an.sees3 (o:=1) rfl,b0,k,⟨cj,rfl,bl⟩,_,bq.cell (i:=3) rfl,.int .i64 (Z5 (c.af.map Int.toNat):Nat),λ U' H _=>?_,?_⟩
  .refine⟨XL.any,(ao U' H).mono ?_⟩;rintro _ U''⟨rfl,hU⟩-;exact⟨rfl,_,.refl _,hU▸.refl _⟩
  refine⟨_,ae.cell (i:=0) rfl,?_⟩
  conv=>whnf
  intro U4 G _;have ai:=Q.trans G.lg;have be:=G.own.trans hM;have bp:=Q9 [] be
  conv=>whnf
  have P:=Z8 (S:=S) (U:=U4) xa i xc _ ((am.lg G.lg.frz2).lg Qr) O1 bd;rw[Og]at P;refine⟨XL.any,P.go λ _=>?_⟩
  repeat apply R1
  conv=>whnf
  apply Qg<;>intro hc
  .have hno:(Jf b.A k).all (λ j=>((l.take i).map Int.toNat).contains j)=false:=by
    cases hh:(Jf b.A k).all (λ j=>((l.take i).map Int.toNat).contains j)with
    |false=>rfl
    |true=>exact absurd (key.2 hh) (bne_iff_ne.1 hc)
   rw[hno]at w;have:=bad _ 7 G D1 w
   repeat apply R1
   conv=>whnf
   exact this
  have bw:(Jf b.A k).all (λ j=>((l.take i).map Int.toNat).contains j)=true:=key.1 (bne_eq_false_iff_eq.1 hc);rw[if_pos bw]at w;have E:=b.ends_len ((l.take i).map Int.toNat);have b2:Zj U4 b8 #[.slice h.ra h.rl h.rc,.slice h.ca h.cl h.cc]:=bj.le G;have bb:(l.take (i+1)).map Int.toNat=(l.take i).map Int.toNat++[k]:=by rw[Wf K,map_append];rfl
  have cw:i<5:=O1
  have aw:=DD (S:=S) (U:=U4) h b ((hb.lg (ah.trans ai.frz2)).lg Qr) ap xa xc ((l.take i).map Int.toNat) (b.ends ((l.take i).map Int.toNat)) (by rw[ak];exact(am.lg G.lg.frz2).lg Qr) bu (by rw[ak];exact bt) (by rw[ak];omega) E.1 E.2 k O1;rw[ak,<- b.ends_snoc,<- bb]at aw;refine⟨_,⟨rfl,b2.rd⟩,?_⟩;refine⟨_,⟨rfl,bp⟩,OY.any,aw.mono ?_⟩;rintro _ U5⟨⟨a',c',rfl,a6,a0,bv⟩,bh⟩-;have aj:=ai.trans bh.lg;have bf:=bh.own.trans be;have ax:((l.take (i+1)).map Int.toNat).length=i+1:=by rw[length_map,length_take];omega
  rw[ax]at a6 a0;refine⟨rfl,Wd (vs:=QP (.slice a' ((l.take (i+1)).map Int.toNat).length c') (Wx (b.ends ((l.take (i+1)).map Int.toNat)).1) (J0 (b.ends ((l.take (i+1)).map Int.toNat)).2)) [] bf rfl (by simp[QP,Value.single]) λ U6 au az av=>?_⟩;rw[ax]at av;have ba:U2.frz.lg U6:=⟨λ x o K=>by rw[au];exact aj.imm x o K,⟨_,(append_nil _).symm⟩,az.trans aj.tok⟩;have bx:U5.frz.lg U6.frz:=⟨λ x o K=>by show U6.I x=_;rw[au];exact K,⟨[],rfl⟩,az⟩;refine⟨co,rfl,(i+1,a',c'),T1,⟨ba,av,by show i+1<=len;omega,a6.lg bx,a0,bv,?_,by rw[bb];exact w⟩,L1⟩;intro x ag;rw[bb,mem_append]at ag;rcases ag with ag|ag
  .exact V x ag
  .rw[mem_singleton.1 ag];omega
 .have hge:i=l.length:=by simp at hc;omega
  subst hge;rw[drop_length]at w;have hz:b.ordL [] l=0:=w;rw[take_length]at hM ae ak V;rw[hz,if_pos rfl,if_pos rfl];have E:=b.ends_len (l.map Int.toNat);generalize b.ends (l.map Int.toNat)=e at hM ae E;obtain⟨e1,e2⟩:=e;simp only at hM ae E;obtain⟨h1,h2⟩:=E;have bs:J0 e2<2^60:=Nat.lt_trans (SG e2 (m:=5) O1) D1;refine⟨_,an.sees3 (o:=0) rfl,_,ae.cell (i:=7) rfl,_,an.sees3 (o:=1) rfl,?_⟩
  conv=>whnf
  obtain⟨eT,cv,a1,a2,a3,a4,a5⟩:=O9.h;refine⟨λ v U'=>v=.slice (some ⟨b9,1,none⟩) h.rl 6,λ v _ _ X _=>X,λ U' H hC=>?_,λ v X=>?_⟩
  .conv=>whnf
   refine zK (b:=b9) (o:=1) (n:=h.rl) (N:=6) a1 a3 rfl rfl O1 ?_;exact⟨_,.refl _,rfl,.refl _⟩
  obtain⟨_,-,-,rfl⟩:=X;refine⟨λ v U'=>WK U'.frz v e1,λ v U1 U2 X H=>X.lg H.lg.frz2,λ U' H hC=>?_,λ v X=>?_⟩
  .have hrd':=Q9 [] (H.own.trans hM)
   have br:Src U' (some ⟨b9,1,none⟩) (e1.map .bool):=.inr ⟨_,rfl,λ i v X=>by
    rw[getElem?_map]at X;cases K:e1[i]? with
    |none=>rw[K]at X;cases X
    |some x=>
     rw[K]at X;cases X;have bk:i<6:=by have:=(List.getElem?_eq_some_iff.1 K).1;omega
     have h3:(QL (Wx e1))[i]?=some (.bool x):=by
      rw[SC _ bk];simp[Wx,getD_eq_getElem?_getD,K]
     have h4:=hrd' (1+i) (.bool x) (by
      rcases HY bk with rfl|rfl|rfl|rfl|rfl|rfl <;> exact h3)
     rw[Qo]at h4 ⊢
     rwa [Nat.zero_add]at h4⟩
   conv=>whnf
   refine Db (sa:=none) (sl:=0) (cs:=[]) (new:=e1.map .bool) F_ rfl rfl (.inl ⟨rfl,rfl⟩) rfl br (by rw[length_map];omega) (by rw[length_map,length_nil];omega) (λ h0=>?_) (λ _ bn cn bc cm cq c5 cf=>?_)
   .have:e1=[]:=by simpa using h0
    subst this;exact⟨_,.refl _,.nil,.refl _⟩
   .refine Zi cm λ U1 cp b7=>⟨?_,cp⟩;have b5:Zj U1.frz bn cn:=b7;have:=b5.bools (l:=e1) (cap:=bc) (λ i x K=>cf i _ (by simp[K]));rw[Nat.zero_add,show h.rl=e1.length by omega];exact this
  obtain⟨_,-,-,va,vc,rfl,-⟩:=X
  conv=>whnf
  intro U4 G hC;obtain⟨-,X⟩:=hC;refine⟨Uu.any,(qO (J0 e2) h.cl bs O1).mono ?_⟩;rintro v U5⟨Y,aq,ay⟩-;rw[show h.cl=e2.length by omega,ji]at Y;obtain⟨ta,tl,tc,rfl,-,-⟩:=Acc.src (U:=U5) Y;rw[G.own,hM]at Y
  repeat apply R1
  conv=>whnf
  exact⟨_,_,[_],rfl,X.lg ⟨aq,⟨[],rfl⟩,ay⟩,Y,λ x o K=>aq x o (G.imm x o (Q.imm x o (z.imm x o K))),ay.trans (G.tok.trans (Q.tok.trans z.tok))⟩
end
variable{G D:Qw}
def Qa.on_of(h:U.M=G::D::M):U=({ U with M:=M }:Qa T).on G D:=by
 obtain⟨i,m,t⟩:=U;simp only[Qa.on]at h ⊢;rw[h]
def Bk.dfO(b:Bk)(r k:Nat)(w:Bool):Option (List Nat):=(b.all.take k).find? λ o=>(b.ends o).1.getD r false==w
def Bk.dfO_succ{w:Bool}(h:b.all[k]?=some o):b.dfO r (k+1) w=(b.dfO r k w).or (if(b.ends o).1.getD r false==w then some o else none):=by
 unfold Bk.dfO;rw[Wf h,find?_append,find?_singleton]
def Bk.dfO_end(b:Bk)(r:Nat)(w:Bool):(b.dfO r b.all.length w).getD []=b.difS r w:=by unfold Bk.dfO Bk.difS;rw[take_length]
def QN(o:Option (List Nat)):List Int:=(o.getD []).map λ(k:Nat)=>(k:Int)
section
attribute [local irreducible] Qb Zp Wv
def qg(h:BH)(b:Bk)(hb:Zq U.frz h b)(hk:JY U)(r:Int) :
  Qb S 16 #[h.v,.int .i64 r] (λ v U'=>(∃v1 v2,v=.tuple #[v1,v2,.int .i64 (b.askF r)]/\Jw U'.frz v1 (if b.askF r=0 then(b.difS r.toNat true).map λ(k:Nat)=>(k:Int)else[])/\Jw U'.frz v2 (if b.askF r=0 then(b.difS r.toNat false).map λ(k:Nat)=>(k:Int)else[]))/\U.le U') U:=by
 refine Qb.grown (R:=λ v U'=>∃v1 v2,v=.tuple #[v1,v2,.int .i64 (b.askF r)]/\Jw U' v1 (if b.askF r=0 then(b.difS r.toNat true).map λ(k:Nat)=>(k:Int)else[])/\Jw U' v2 (if b.askF r=0 then(b.difS r.toNat false).map λ(k:Nat)=>(k:Int)else[])) (λ v U1 U2 V⟨v1,v2,e,h1,h2⟩=>⟨v1,v2,e,h1.lg V,h2.lg V⟩) (Qb.of (args:=[_,_]) Ur Qf S1 ?_);have br:=hb.rs.1
 repeat apply R1
 conv=>whnf
 intro B U1 bf hB;have hB:Zj U1 B #[.slice h.ra h.rl h.rc,.slice h.ca h.cl h.cc]:=hB
 conv=>whnf
 intro b3 U2 a8 ad;have ad:Zj U2 b3 #[.int .i64 r]:=ad
 conv=>whnf
 intro b4 bn;refine⟨_,.refl _,?_⟩
 conv=>whnf
 intro b5 bo;refine⟨_,.refl _,?_⟩;have f:=bf.trans a8;have L:U2.lg ((U2.put b4 (.cells #[.nl] 37)).put b5 (.cells #[.nl] 37)):=(Z2 b4 _).trans (Z2 b5 _);refine⟨_,⟨rfl,((hB.le a8).lg L).rd⟩,?_⟩;refine⟨_,(ad.lg L).sees3 (o:=0) rfl,Pk.any,(PY h b (hb.lg (f.lg.frz2.trans L.frz2)) (hk.lg (f.lg.trans L)) r).go λ _=>?_⟩;by_cases hF:b.askF r=0
 .rw[hF,if_pos rfl,if_pos rfl,if_pos rfl];obtain⟨bc,bi,bl⟩:=Bk.askF_ok hF;obtain⟨q,rfl⟩:=Int.eq_ofNat_of_zero_le bi;rw[Int.toNat_natCast];have bq:=bc.nr;have ae:q<6:=by unfold Bk.nr at bl;omega
  conv=>whnf
  intro b7 au;refine⟨_,.refl _,rfl,Zv (vs:=[.slice h.ra h.rl h.rc,.slice h.ca h.cl h.cc]) au rfl (by simp[Value.single]) λ U3 N a9=>?_⟩
  repeat apply R1
  conv=>whnf
  intro b8 bg;refine⟨_,.refl _,?_⟩;have P:=Z2 (U:=U3) b8 (.cells #[.bool false,.bool false] 126);refine⟨_,⟨rfl,(a9.lg P).rd⟩,?_⟩;refine⟨OB.any,(DR h b ((hb.lg (f.lg.frz2.trans (L.frz2.trans (N.lg.frz2.trans P.frz2)))).lg Qr)).mono ?_⟩;rintro _ U4⟨⟨B',rfl,a2⟩,ak⟩-;have ax:U.frz.lg U4.frz:=f.lg.frz2.trans (L.frz2.trans (N.lg.frz2.trans (P.frz2.trans ak.lg.frz2)));have ad:Zj U4 b3 #[.int .i64 (q:Int)]:=ad.lg (L.trans (N.lg.trans (P.trans ak.lg)))
  have az:U4.M=.obj b8 (.cells #[.bool (b.dfO q 0 true).isSome,.bool (b.dfO q 0 false).isSome] 126 (0,0))::.obj b5 (.cells #[.nl] 37 (0,0))::.obj b4 (.cells #[.nl] 37 (0,0))::U.M:=by
   rw[ak.own];show _::U3.M=_;rw[N.own];show _::_::_::U2.M=_;rw[f.own];rfl
  have bh:∀l U5,U4.frz.lg U5->Yc S 84 #[.func (.yield l) #[] #[],.pb B'] l b.all.length (Gw b) U5:=λ l U5 V=>Dz h b (hb.lg (ax.trans V.frz2)) bc (a2.imI V.imm);have a1:U4.tok=U.tok:=ak.tok.trans (P.tok.trans (N.tok.trans (L.tok.trans f.tok)));clear a2 P ak N au bg L
  conv=>whnf
  let Inv:Nat->Qa T->Prop:=λ k U'=>U4.frz.lg U'/\∃v4 v5,U'.M=.obj b8 (.cells #[.bool (b.dfO q k true).isSome,.bool (b.dfO q k false).isSome] 126 (0,0))::.obj b5 (.cells #[v5] 37 (0,0))::.obj b4 (.cells #[v4] 37 (0,0))::U.M/\Jw U'.frz v4 (QN (b.dfO q k true))/\Jw U'.frz v5 (QN (b.dfO q k false))
  refine Im Qf b.all.length (Gw b) Inv (λ _ _=>False) (λ _=>False) rfl rfl OH.any bh ?_ ?_ ⟨Qr,_,_,az,.nil,.nil⟩ ?_ ?_ ?_ ?_
  .rintro k p U' ⟨o,v,-,rfl,-⟩;rfl
  .rintro k U' U'' G ⟨V,v4,v5,hM,h4,h5⟩;exact⟨SI V G,v4,v5,G.own.trans hM,h4.lg G.lg.frz2,h5.lg G.lg.frz2⟩
  .rintro l A' Bd D k p U₀ KN KX KR KA hk' ⟨o,v,ho,rfl,a,cap,rfl,hio,hcap,hsp⟩ ⟨V,v4,v5,hM,h4,h5⟩ hKN hKX hKR hKA;obtain⟨a4,c4,rfl,h4⟩:=h4;obtain⟨a5,c5,rfl,h5⟩:=h5
   conv=>whnf
   intro b9 bb;refine⟨_,.refl _,rfl,Zv (vs:=QP (.slice a o.length cap) (Wx (b.ends o).1) (J0 (b.ends o).2)) bb rfl (by simp[QP,Value.single]) λ U5 aq aw=>?_⟩
   conv=>whnf
   rw[Qa.on_of (aq.own:U5.M=A'::D::U₀.M)];refine hKA _ _ ?_;have Q:(({ U5 with M:=U₀.M }:Qa T).on Bd D).M=[Bd,D]++(.obj b8 (.cells #[.bool (b.dfO q k true).isSome,.bool (b.dfO q k false).isSome] 126 (0,0))::.obj b5 (.cells #[.slice a5 (QN (b.dfO q k false)).length c5] 37 (0,0))::.obj b4 (.cells #[.slice a4 (QN (b.dfO q k true)).length c4] 37 (0,0))::U.M):=by show Bd::D::U₀.M=_;rw[hM];rfl
   have z:U₀.frz.lg (({ U5 with M:=U₀.M }:Qa T).on Bd D):=⟨λ x o h=>aq.imm x o h,⟨_,(append_nil _).symm⟩,aq.tok⟩;have ba:Zj (({ U5 with M:=U₀.M }:Qa T).on Bd D) b9 (QP (.slice a o.length cap) (Wx (b.ends o).1) (J0 (b.ends o).2)).toArray:=aw;generalize(({ U5 with M:=U₀.M }:Qa T).on Bd D)=U6 at Q z ba ⊢;clear aq aw bb;have ab:Zj U6 b3 #[.int .i64 (q:Int)]:=ad.imI λ x o h=>z.imm x o (V.imm x o h)
   have bm:(QP (.slice a o.length cap) (Wx (b.ends o).1) (J0 (b.ends o).2))[1+q]?=some (.bool ((b.ends o).1.getD q false)):=by
    have:=SC (Wx (b.ends o).1) ae;rcases HY ae with rfl|rfl|rfl|rfl|rfl|rfl <;> exact this
   have am:Jj U6 ⟨b9,0,none⟩ (QP (.slice a o.length cap) (Wx (b.ends o).1) (J0 (b.ends o).2)):=ba.reads λ k v hv=>by simpa using hv
   have av:U6.sees (((Addr.mk b9 0 none).add 1).add (q*1)) (.bool ((b.ends o).1.getD q false)):=by
    have:=am (1+q) _ bm;rw[Qo]at this;rw[Qo,Qo,Nat.mul_one]
    rwa [Nat.zero_add]at this ⊢
   have E:=b.dfO_succ (r:=q) (w:=true) ho;have F:=b.dfO_succ (r:=q) (w:=false) ho;have bd:Jw U6.frz (.slice a o.length cap) (o.map λ(k:Nat)=>(k:Int)):=⟨a,cap,S1,by rw[length_map];exact hio.lg z.frz2⟩;have h4:Jw U6.frz (.slice a4 (QN (b.dfO q k true)).length c4) (QN (b.dfO q k true)):=⟨a4,c4,rfl,h4.lg z.frz2⟩;have h5:Jw U6.frz (.slice a5 (QN (b.dfO q k false)).length c5) (QN (b.dfO q k false)):=⟨a5,c5,rfl,h5.lg z.frz2⟩;have Y:=Q9 [Bd,D] Q;have bp:U4.frz.lg U6.frz:=V.frz2.trans z.frz2
   have same:∀(ay:Zl T)ap ao,(∀ap ao U3,U₀.frz.lg U3->Inv (k+1) U3->ay ap ao (U3.on Bd D))->b.dfO q (k+1) true=b.dfO q k true->b.dfO q (k+1) false=b.dfO q k false->ay ap ao U6:=by
    intro ay ap ao hK e1 e2;rw[Qa.on_of (Q:U6.M=Bd::D::(.obj b8 (.cells #[.bool (b.dfO q k true).isSome,.bool (b.dfO q k false).isSome] 126 (0,0))::.obj b5 (.cells #[.slice a5 (QN (b.dfO q k false)).length c5] 37 (0,0))::.obj b4 (.cells #[.slice a4 (QN (b.dfO q k true)).length c4] 37 (0,0))::U.M))];refine hK _ _ _ ⟨z.imm,⟨_,(append_nil _).symm⟩,z.tok⟩ ⟨⟨λ x o h=>z.imm x o (V.imm x o h),⟨_,(append_nil _).symm⟩,z.tok.trans V.tok⟩,.slice a4 (QN (b.dfO q k true)).length c4,.slice a5 (QN (b.dfO q k false)).length c5,?_,?_,?_⟩
    .rw[e1,e2];rfl
    .rw[e1];exact h4
    .rw[e2];exact h5
   refine⟨_,ab.sees3 (o:=0) rfl,q,⟨rfl,ae⟩,_,av,?_⟩;cases hs:(b.ends o).1.getD q false with
   |true=>
    rw[hs]at E F;cases e4:b.dfO q k true with
    |none=>
     rw[e4]at E;simp at E F;rw[e4]at Q Y;refine⟨0,⟨rfl,O1⟩,_,Y 0 _ rfl,?_⟩
     repeat apply R1
     refine⟨_,am 0 _ rfl,rfl,Wd (vs:=[.slice a o.length cap]) [Bd,D,_,_] Q rfl (by simp[Value.single]) λ U7 H K X=>?_⟩;refine⟨0,⟨rfl,O1⟩,rfl,WJ (i:=0) (v:=.bool true) [Bd,D] X (by show 0<2;omega) rfl λ U8 W Z aj=>?_⟩;have hz:U6.frz.lg U8.frz:=⟨λ x o hx=>by show U8.I x=_;rw[W,H];exact hx,⟨[],rfl⟩,Z.trans K⟩;have ag:∀x o,U₀.I x=some o->U8.I x=some o:=λ x o hx=>by rw[W,H];exact z.imm x o hx
     have an:U8.tok=U₀.tok:=by rw[Z,K];exact z.tok
     conv=>whnf
     rw[Qa.on_of (aj:U8.M=Bd::D::(.obj b8 (.cells #[.bool true,.bool (b.dfO q k false).isSome] 126 (0,0))::.obj b5 (.cells #[.slice a5 (QN (b.dfO q k false)).length c5] 37 (0,0))::.obj b4 (.cells #[.slice a o.length cap] 37 (0,0))::U.M))];refine hKN _ _ _ ⟨ag,⟨_,(append_nil _).symm⟩,an⟩ ⟨⟨λ x o h=>ag x o (V.imm x o h),⟨_,(append_nil _).symm⟩,an.trans V.tok⟩,.slice a o.length cap,.slice a5 (QN (b.dfO q k false)).length c5,?_,?_,?_⟩
     .rw[E,F];rfl
     .rw[E];exact bd.lg hz
     .rw[F];exact h5.lg hz
    |some o'=>
     rw[e4]at E;simp at E F;have al:=same KN;rw[e4]at Q Y;refine⟨0,⟨rfl,O1⟩,_,Y 0 _ rfl,?_⟩
     repeat apply R1
     refine⟨_,ab.sees3 (o:=0) rfl,q,⟨rfl,ae⟩,_,av,?_⟩;rw[hs]
     repeat apply R1
     conv=>whnf
     exact al _ _ hKN (by rw[E,e4]) F
   |false=>
    rw[hs]at E F;cases e5:b.dfO q k false with
    |none=>
     rw[e5]at F;simp at E F;rw[e5]at Q Y
     repeat apply R1
     refine⟨_,ab.sees3 (o:=0) rfl,q,⟨rfl,ae⟩,_,av,?_⟩;rw[hs];refine⟨1,⟨rfl,O1⟩,_,Y 1 _ rfl,?_⟩
     repeat apply R1
     refine⟨_,am 0 _ rfl,rfl,Wd (vs:=[.slice a o.length cap]) [Bd,D,_] Q rfl (by simp[Value.single]) λ U7 H K X=>?_⟩;refine⟨1,⟨rfl,O1⟩,rfl,WJ (i:=1) (v:=.bool true) [Bd,D] X (by show 1<2;omega) rfl λ U8 W Z aj=>?_⟩;have hz:U6.frz.lg U8.frz:=⟨λ x o hx=>by show U8.I x=_;rw[W,H];exact hx,⟨[],rfl⟩,Z.trans K⟩;have ag:∀x o,U₀.I x=some o->U8.I x=some o:=λ x o hx=>by rw[W,H];exact z.imm x o hx
     have an:U8.tok=U₀.tok:=by rw[Z,K];exact z.tok
     conv=>whnf
     rw[Qa.on_of (aj:U8.M=Bd::D::(.obj b8 (.cells #[.bool (b.dfO q k true).isSome,.bool true] 126 (0,0))::.obj b5 (.cells #[.slice a o.length cap] 37 (0,0))::.obj b4 (.cells #[.slice a4 (QN (b.dfO q k true)).length c4] 37 (0,0))::U.M))];refine hKN _ _ _ ⟨ag,⟨_,(append_nil _).symm⟩,an⟩ ⟨⟨λ x o h=>ag x o (V.imm x o h),⟨_,(append_nil _).symm⟩,an.trans V.tok⟩,.slice a4 (QN (b.dfO q k true)).length c4,.slice a o.length cap,?_,?_,?_⟩
     .rw[E,F];rfl
     .rw[E];exact h4.lg hz
     .rw[F];exact bd.lg hz
    |some o'=>
     rw[e5]at F;simp at E F;have al:=same KN;rw[e5]at Q Y
     repeat apply R1
     refine⟨_,ab.sees3 (o:=0) rfl,q,⟨rfl,ae⟩,_,av,?_⟩;rw[hs];refine⟨1,⟨rfl,O1⟩,_,Y 1 _ rfl,?_⟩
     repeat apply R1
     conv=>whnf
     exact al _ _ hKN E (by rw[F,e5])
  .rintro d l OA U3' ⟨V,v4,v5,hM,h4,h5⟩;obtain⟨a4,c4,rfl,h4⟩:=h4;obtain⟨a5,c5,rfl,h5⟩:=h5;have aa:(U3'.on (.obj l OA) (.obj d (.deferred (some [])))).M=[.obj l OA,.obj d (.deferred (some []))]++(.obj b8 (.cells #[.bool (b.dfO q b.all.length true).isSome,.bool (b.dfO q b.all.length false).isSome] 126 (0,0))::.obj b5 (.cells #[.slice a5 (QN (b.dfO q b.all.length false)).length c5] 37 (0,0))::.obj b4 (.cells #[.slice a4 (QN (b.dfO q b.all.length true)).length c4] 37 (0,0))::U.M):=by show _::_::U3'.M=_;rw[hM];rfl
   have h4:Jw (U3'.on (.obj l OA) (.obj d (.deferred (some [])))).frz (.slice a4 (QN (b.dfO q b.all.length true)).length c4) (QN (b.dfO q b.all.length true)):=⟨a4,c4,rfl,h4⟩;have h5:Jw (U3'.on (.obj l OA) (.obj d (.deferred (some [])))).frz (.slice a5 (QN (b.dfO q b.all.length false)).length c5) (QN (b.dfO q b.all.length false)):=⟨a5,c5,rfl,h5⟩;have a0:U4.frz.lg (U3'.on (.obj l OA) (.obj d (.deferred (some [])))):=⟨V.imm,⟨_,(append_nil _).symm⟩,V.tok⟩;generalize(U3'.on (.obj l OA) (.obj d (.deferred (some []))))=U5 at aa h4 h5 a0 ⊢;have e1:QN (b.dfO q b.all.length true)=(b.difS q true).map λ(k:Nat)=>(k:Int):=by unfold QN;rw[b.dfO_end]
   have e2:QN (b.dfO q b.all.length false)=(b.difS q false).map λ(k:Nat)=>(k:Int):=by unfold QN;rw[b.dfO_end]
   have bj:=Q9 (b:=b4) (vs:=[.slice a4 (QN (b.dfO q b.all.length true)).length c4]) [_,_,_,_] aa;have bk:=Q9 (b:=b5) (vs:=[.slice a5 (QN (b.dfO q b.all.length false)).length c5]) [_,_,_] aa;refine⟨λ U'=>U5.frz.lg U'/\U'.M=U5.M,λ U U'⟨a,b⟩G=>⟨SI a G,G.own.trans b⟩,_,bj 0 _ rfl,.slice a5 (QN (b.dfO q b.all.length false)).length c5,λ U' G _=>⟨_,(bk 0 _ rfl).lg G.lg,rfl,_,.refl _,.refl _⟩,λ U' hG=>⟨_,Q9 [_,_,_] (hG.2.trans aa) 0 _ rfl,rfl,_,.refl _,.refl _⟩,?_⟩
   conv=>whnf
   intro U' G _;refine⟨⟨rfl,Y8 (vs:=[.slice a4 (QN (b.dfO q b.all.length true)).length c4]) [_,_,_,_] (G.own.trans aa) rfl (by simp[Value.single]) ⟨rfl,_,.refl _,⟨⟨λ b o h=>G.imm b o h,⟨_,(append_nil _).symm⟩,G.tok⟩,aa.symm⟩⟩⟩,λ U'' hG=>?_⟩;obtain⟨ac,ai⟩:=hG;have ai:=ai.trans aa;refine⟨rfl,Wd (vs:=[.slice a5 (QN (b.dfO q b.all.length false)).length c5]) [_,_,_] ai rfl (by simp[Value.single]) λ U7 H K X=>?_⟩;have hz:U5.frz.lg U7.frz:=⟨λ x o hx=>by show U7.I x=_;rw[H];exact ac.imm x o hx,⟨[],rfl⟩,K.trans ac.tok⟩;refine⟨[.obj l OA,.obj d (.deferred none)]++(.obj b8 (.cells #[.bool (b.dfO q b.all.length true).isSome,.bool (b.dfO q b.all.length false).isSome] 126 (0,0))::.obj b5 (.cells #[.slice a5 (QN (b.dfO q b.all.length false)).length c5] 37 (0,0))::.obj b4 (.cells #[.slice a4 (QN (b.dfO q b.all.length true)).length c4] 37 (0,0))::U.M),by rw[X];exact .there .here,?_⟩;refine⟨_,Q9 [_,_,_,_] rfl 0 _ rfl,?_⟩;refine⟨_,Q9 [_,_,_] rfl 0 _ rfl,?_⟩;refine⟨⟨_,_,rfl,?_,?_⟩,⟨λ x o hx=>?_,⟨[_,_,_,_,_],rfl⟩,?_⟩⟩
   .rw[<- e1];exact h4.lg hz
   .rw[<- e2];exact h5.lg hz
   .show U7.I x=_;rw[H];exact ac.imm x o (a0.imm x o (ax.imm x o hx))
   .show U7.tok=_;rw[K];exact ac.tok.trans (a0.tok.trans a1)
  .exact λ _ _ _ _ _ h=>h.elim
  .exact λ _ _ _ _ h=>h.elim
 .rw[if_neg hF,if_neg hF,if_neg hF]
  conv=>whnf
  intro b7 au;refine⟨_,.refl _,rfl,Zv (vs:=[.nl,.nl]) au rfl (by simp[Value.single]) λ U3 N a9=>?_⟩
  have a7:U3.M=[.obj b5 (.cells #[.nl] 37 (0,0))]++.obj b4 (.cells #[.nl] 37 (0,0))::U.M:=by
   rw[N.own];show _::_::U2.M=_;rw[f.own];rfl
  repeat apply R1
  conv=>whnf
  apply Qg<;>intro hc
  .refine⟨rfl,Wd (vs:=[.nl]) [_] a7 rfl (by simp[Value.single]) λ U4 a3 a1 az=>?_⟩;refine⟨rfl,Wd (vs:=[.nl]) [] az rfl (by simp[Value.single]) λ U5 a6 be ah=>?_⟩;refine⟨_,Q9 [_] ah 0 _ rfl,_,Q9 [] ah 0 _ rfl,⟨_,_,rfl,.nil,.nil⟩,⟨λ x o hx=>?_,⟨[_,_],ah⟩,?_⟩⟩
   .rw[a6,a3];exact N.imm x o (L.imm x o (f.imm x o hx))
   .rw[be,a1];exact N.tok.trans (L.tok.trans f.tok)
  .exact absurd (by simpa using hc) hF
end
variable{u:Fm}{K:Value->Qa T->Prop}{w:TypeInfo}{x y:Operand}
def Na(hu:P.underlying k=some (.slice e))(G:P.info? e=some w)(hz:w.zero=some z)(Q:z.cells=#[z])(L:w.size=1)(F:w.bytes<=64)
  (hx:Zg u x=.int .i64 0) (hy:Zg u y=.int .i64 n) (Z:n<=1048576) (h:∀b,U.free b->K (.slice (some ⟨b,0,none⟩) 0 n) (U.put b (.cells (replicate n z).toArray e))) :
  OX d (.rw (.makeSlice k x y) cap) u K U:=by
 intro a' V;simp only[execOp,V,hx,hy];refine rq ?_;unfold Instr.makeSlice;have hw:IntKind.wrap .i64 (n:Int)=n:=Ga I1;have N:IntKind.wrap .i64 (0:Int)=0:=D1
 simp only[Qd,Ze hu,asInt,asIntOf,Qk,We G,hw,N]
 have Y:(w.bytes:Int)*(n:Int)<=67108864:=by
  have:=Nat.mul_le_mul F Z;have e:((w.bytes*n:Nat):Int)=(w.bytes:Int)*n:=S1
  omega
 have E:(2:Int)^48=281474976710656:=D1
 have I:(((decide ((n:Int)<0)|| decide ((w.bytes:Int)*(n:Int) > 2^48))|| decide ((0:Int)<0))|| decide ((0:Int) > n))=false:=by
  rw[E];simp only[Bool.or_eq_false_iff,decide_eq_false_iff_not];omega
 simp only[I,Bool.false_eq_true,if_false];rw[Qd];refine PG ?_;simp only[Qd,Je G,L,Nat.mul_one,Int.toNat_natCast]
 have fin:∀c:Array Value,(n≠0->c=z.cells)->Qq P (newRow e ((Array.range n).map (c[· % c.size]!))) (λ a U'=>∃T,Qv U' T/\K (.slice (some a) 0 n) T) U:=by
  intro c X;refine Jg λ b W=>⟨_,.refl _,?_⟩
  have:(Array.range n).map (c[· % c.size]!)=(replicate n z).toArray:=by
   apply Array.ext
   .simp
   .intro i h1 h2;have H:n≠0:=by simp at h1;omega
    have B:=X H;rw[Q]at B;subst B;simp[Nat.mod_one]
  rw[this];exact h b W
 split
 .rename_i h0;exact fin #[] λ h=>absurd h0 h
 .simp only[Qd,Xk G hz];exact fin _ λ _=>rfl
def JP.perm(f:JP U)(h:U.M.Perm M'):JP { U with M:=M' }:=λ r b=>f r (h.mem_iff.2 b)
def Js.freeze{e n:Nat}{v:Value}{cs:List Value}{A R:List Qw}(G:JP U)(h:Js e n v cs A)(w:U.M.Perm (A++R)) :
  ∃U'',Qv U U''/\U''.M=R/\U.frz.lg U''.frz/\∃a len cap,v=.slice a len cap/\cs.length=len*n/\Src U''.frz a cs/\(∀u,a=some u->u.spot=none):=by
 obtain⟨U'',H,b,a,len,cap,z,B,E,F,-⟩:=(h R).freeze (U:={ U with M:=R }) (U':={ U with M:=A++R }) (G.perm w) (λ _ _ h=>h) rfl;exact⟨U'',(W3 w).trans H,b.own,⟨b.imm,⟨[],rfl⟩,b.tok⟩,a,len,cap,z,B,E,F⟩
def Js.blk{v:Value}(h:Js e n v cs A)(w:cs≠[]):∃b c len cap,v=.slice (some ⟨b,0,none⟩) len cap/\cs.length=len*n/\len<=cap/\c.size=cap*n/\A=[.obj b (.cells c e (0,0))]/\∀(i:Nat)(x:Value),cs[i]?=some x->c[i]?=some x:=by
 rcases h []with⟨_,u,_⟩|⟨b,c,len,cap,u,z,B,E,G,F⟩
 .exact absurd u w
 .exact⟨b,c,len,cap,u,z,B,E,by simpa using G,F⟩
def Js.ofBlk{len:Nat}(f:cs.length=len*n)(h:len<=cap)(w:c.size=cap*n)(z:∀(i:Nat)(x:Value),cs[i]?=some x->c[i]?=some x):Js e n (.slice (some ⟨k,0,none⟩) len cap) cs [.obj k (.cells c e (0,0))]:=
 λ _=>.inr ⟨k,c,len,cap,rfl,f,h,w,rfl,z⟩
def Acc.room(h:Acc e n (.slice a i k) cs M M₀):i<=k:=by
 rcases h with⟨e,-,-⟩|⟨_,_,_,_,e,-,h,-⟩ <;> cases e
 .exact Nat.le_refl _
 .exact h
section
attribute [local irreducible] Qb Zp Wv
def wB:X3 prog 22 9 1:=.of K1
def pg:prog.underlying 22=some (.slice 9):=K1
def wC:X3 prog 36 37 1:=.of K1
def pj:prog.underlying 36=some (.slice 37):=K1
def FZ:X3 prog 23 39 4:=.of K1
def Dy(a:Option Addr)(len cap:Nat)(l:List ByteArray)(T:Q8 U a len 1 l λ s vs=>vs=[.string s])(Y:len<=1000) :
  Qb S 101 #[.slice a len cap] (λ v U'=>(∃a' b f,v=.slice a' b f/\b<=f/\Q8 U'.frz a' b 1 l λ s vs=>vs=[.string s])/\U.le U') U:=by
 have H:=T.1
 have N:Qb S 101 #[.slice a len cap] (λ v U'=>Acc 9 1 v (l.map .string) U'.M U.M/\(∀x o,U.I x=some o->U'.I x=some o)/\U'.tok=U.tok) U:=by
  refine Qb.of (args:=[_]) Ob Qf S1 ?_
  conv=>whnf
  refine Vy pg rfl ?_
  conv=>whnf
  apply Qg<;>intro X
  .have P:a=none:=by simpa using X
   subst P
   have:l=[]:=by
    cases l with
    |nil=>rfl
    |cons x r=>
     obtain⟨w,_,_,_,h,_⟩:=Q8.at T (show 0<len by simp at H;omega);cases h
   subst this
   repeat apply R1
   conv=>whnf
   exact⟨.nil,λ _ _ h=>h,rfl⟩
  .obtain⟨w,rfl⟩:∃w,a=some w:=by cases a with|none=>cases X|some w=>exact⟨w,rfl⟩
   conv=>whnf
   intro b5 ab;refine⟨_,.refl _,?_⟩
   conv=>whnf
   refine Wn (v:=.slice (some ⟨b5,0,none⟩) 0 0) (cs:=[]) (new:=l.map .string) (M₀:=U.M) wB rfl rfl .empty (.inr ⟨_,rfl,λ i v B=>?_⟩) (by simp[H]) (by simp[Value.single]) S3 λ v' M' F _=>?_
   .rw[getElem?_map]at B;cases E:l[i]? with
    |none=>rw[E]at B;cases B
    |some x=>
     rw[E]at B;cases B;have hi:i<len:=by have:=(List.getElem?_eq_some_iff.1 E).1;omega
     obtain⟨aa,x',vs,L,e,z,rfl,-,V⟩:=Q8.at T hi;cases e;rw[E]at L;cases L;have Q:=V 0 _ rfl;obtain⟨bb,oo,ss⟩:=w;cases z;rw[Qo,Qo,Nat.mul_one,Nat.add_zero]at Q;rw[Qo];exact Q.lg (Z2 b5 _)
   obtain⟨ta,tl,tc,rfl,-,-⟩:=Acc.src (U:={ U with M:=M' }) F
   repeat apply R1
   conv=>whnf
   exact⟨by simpa using F,λ _ _ h=>h,rfl⟩
 refine N.sep λ v U' Q⟨P,hI,ht⟩=>?_;obtain⟨U'',k1,k2,a',b,f,rfl,G,K,z,_⟩:=P.freeze Q hI ht;refine⟨U'',k1,⟨a',b,f,rfl,P.room,?_⟩,k2⟩;refine⟨by simp at G;exact G,λ i x E=>?_⟩;rcases K with⟨_,Z⟩|⟨w,rfl,V⟩
 .rw[map_eq_nil_iff]at Z;subst Z;simp at E
 .refine⟨w,[.string x],rfl,z w rfl,rfl,rfl,λ k v B=>?_⟩;cases k with
  |zero=>
   simp at B;subst B;have W:=V i (.string x) (by simp[E]);obtain⟨bb,oo,ss⟩:=w;cases z ⟨bb,oo,ss⟩ rfl;rw[Qo]at W;rw[Qo,Qo,Nat.mul_one,Nat.add_zero];exact W
  |succ k=>simp at B
end
variable{U':Qa T}{R':Value->Qa T->Prop}{α:Type}{g:List α}{L:α}
def Qb.okv(h:Qb d f args K U)(z:∀v U',(∃w,U'.ok w)->K v U'->∃U'',Qv U' U''/\R' v U''):Qb d f args R' U:=by
 intro Stop m c cs k;refine h Stop m c cs λ v U' r=>?_;by_cases b:∃w,U'.ok w
 .obtain⟨U'',h1,h2⟩:=z v U' b r;exact .shift h1 (k v _ h2)
 .exact .priv ⟨rfl,λ w ok=>absurd ⟨w,ok⟩ b⟩
def KQ(h:∃w,U.ok w):JP U:=let ⟨_,ok⟩:=h;ok.sep
def Ik(h:∃w,U.ok w)(k:Qv U U'):∃w,U'.ok w:=let ⟨w,ok⟩:=h;⟨w,(k.2 w ok).1⟩
structure ZJ where
 ga:Option Addr
 gl:Nat
 gc:Nat
 v:Value
 F:List Qw
def QY(p:Cs×ZJ):List Value:=[.string p.1.nm,.int .i64 p.1.ag,.slice p.2.ga p.2.gl p.2.gc,p.2.v]
structure WW(U:Qa T)(p:Cs×ZJ):Prop where
 gs:Wl U.frz p.2.ga p.2.gl p.1.gs
 gl:p.2.gl<2^60
 af:Js 3 1 p.2.v (p.1.af.map λ n=>.int .i64 n) p.2.F
 nm:p.1.nm.size<2^60
 al:p.1.af.length<=1000
def WW.lg{p:Cs×ZJ}(h:WW U p)(k:U.frz.lg U'.frz):WW U' p:=⟨h.gs.lg k,h.gl,h.af,h.nm,h.al⟩
def Qz{α β:Type}{f:α->List β}{n:Nat}(b:∀a,(f a).length=n):∀l:List α,(l.flatMap f).length=l.length*n
 |[]=>S1
 |a::l=>by simp only[flatMap_cons,length_append,b,Qz b l,length_cons,Nat.succ_mul];omega
def Zy(p:Cs×ZJ):(QY p).length=4:=rfl
def P5{f:α->List T}(w:∀L,(f L).length=n)(h:g[i]?=some L)(z:e<n):(g.flatMap f)[i*n+e]?=(f L)[e]?:=by
 induction g generalizing i with
 |nil=>cases h
 |cons b g B=>
  cases i with
  |zero=>
   simp at h;subst h;rw[flatMap_cons,Nat.zero_mul,Nat.zero_add,getElem?_append_left (by rw[w];exact z)]
  |succ i=>
   simp at h;rw[flatMap_cons,getElem?_append_right (by rw[w,Nat.succ_mul];omega),w];rw[<- B h];congr 1;rw[Nat.succ_mul];omega
structure QQ(U:Qa T)(h:BH)(b:Bk)(M₀:List Qw):Prop where
 ex:∃(ps:List (Cs×ZJ))(A:List Qw),ps.map (·.1)=b.cs/\(∀p∈ps,WW U p)/\Js 39 4 (.slice h.ca h.cl h.cc) (ps.flatMap QY) A/\U.M.Perm (A++(ps.flatMap (·.2.F)++M₀))
 rs:Q8 U.frz h.ra h.rl 1 b.rs λ s vs=>vs=[.string s]
 rl:h.rl<2^60
 rn:∀s∈b.rs,s.size<2^60
 rc:h.rl<=h.rc
def QQ.le{h:BH}{b:Bk}{M₀:List Qw}(k:QQ U h b M₀)(f:U.le U'):QQ U' h b M₀:=
 let ⟨ps,A,h1,h2,h3,h4⟩:=k.ex
 ⟨⟨ps,A,h1,λ p w=>(h2 p w).lg f.lg.frz2,h3,by rw[f.own];exact h4⟩,k.rs.lg f.lg.frz2 λ _ _ h=>h,k.rl,k.rn,k.rc⟩
def IZ:∀(B:List (Cs×ZJ)){U:Qa T}{R:List Qw},(∃w,U.ok w)->(∀p∈B,WW U p)->U.M.Perm (B.flatMap (·.2.F)++R) ->
  ∃U'',Qv U U''/\U''.M.Perm R/\U.frz.lg U''.frz/\∀p∈B,∃H al ac,p.2.v=.slice H al ac/\Z3 U''.frz H al p.1.af/\al<2^60
 |[],U,R,_,_,E=>⟨U,.refl _,by simpa using E,⟨λ _ _ h=>h,⟨[],rfl⟩,rfl⟩,S1⟩
 |p::B,U,R,L,b,E=>by
  have K:=b p (mem_cons_self ..);rw[flatMap_cons,append_assoc]at E;obtain⟨d,N,W,P,a,len,cap,e,I,z,G⟩:=K.af.freeze (KQ L) E;obtain⟨V,X,Y,Q,Z⟩:=IZ B (U:=d) (R:=R) (Ik L N) (λ q f=>(b q (mem_cons_of_mem _ f)).lg P) (by rw[W]);refine⟨V,N.trans X,Y,P.trans Q,λ q f=>?_⟩;rcases mem_cons.1 f with rfl|f
  .simp at I;subst I;exact⟨a,_,cap,e,(Kf z G).lg Q,by have:=K.al;omega⟩
  .exact Z q f
def QQ.freeze{h:BH}{b:Bk}{M₀:List Qw}(k:QQ U h b M₀)(Y:∃w,U.ok w)(ab:b.cs.length<=1000):∃U'',Qv U U''/\U''.M=M₀/\U.frz.lg U''.frz/\Zq U''.frz h b:=by
 obtain⟨E,A,Q,N,h3,h4⟩:=k.ex
 have d:U.M.Perm (E.flatMap (·.2.F)++(A++M₀)):=h4.trans (by
  rw[<- append_assoc,<- append_assoc];exact Perm.append_right _ perm_append_comm)
 obtain⟨U1,k1,k2,V,k4⟩:=IZ E Y N d;obtain⟨U2,m1,m2,P,a,len,cap,e,hl,K,I⟩:=h3.freeze (KQ (Ik Y k1)) k2;cases e;rw[Qz Zy]at hl;have G:b.cs.length=h.cl:=by rw[<- Q,length_map];omega
 refine⟨U2,k1.trans m1,m2,V.trans P,k.rs.lg (V.trans P) λ _ _ h=>h,⟨G,λ i c f=>?_⟩,k.rl,O1,k.rn,λ c f=>?_⟩
 .have hpi:∃p,E[i]?=some p/\p.1=c:=by
   rw[<- Q,getElem?_map]at f;cases Z:E[i]? with
   |none=>rw[Z]at f;cases f
   |some p=>rw[Z]at f;cases f;exact⟨p,rfl,rfl⟩
  obtain⟨p,H,rfl⟩:=hpi;have B:=mem_of_getElem? H;obtain⟨aa,al,ac,ev,hi,T⟩:=k4 p B;rcases K with⟨_,hn⟩|⟨L,z,hr⟩
  .have:E=[]:=by
    cases E with
    |nil=>rfl
    |cons q r=>simp[QY]at hn
   subst this;cases H
  .refine⟨L,QY p,z,I L z,⟨p.2.ga,p.2.gl,p.2.gc,aa,al,ac,by rw[<- ev];rfl,(N p B).gs.lg (V.trans P),(N p B).gl,hi.lg P,T⟩,rfl,λ j v X=>?_⟩;have hj:j<4:=by have:=(List.getElem?_eq_some_iff.1 X).1;exact this
   have W:=hr (i*4+j) v (by rw[P5 Zy H hj];exact X);have hs:=I L z;obtain⟨bb,oo,ss⟩:=L;cases hs;rw[Qo]at W;rw[Qo,Qo,Nat.add_assoc];exact W
 .rw[<- Q]at f;obtain⟨p,H,rfl⟩:=mem_map.1 f;exact(N p H).nm
section
attribute [local irreducible] Qb Zp Wv
def gU:∃b,prog.info? 37=some b/\b.zero=some .nl/\b.size=1/\b.bytes<=64:=by
 have f:(prog.info? 37).map (·.zero)=some (some .nl):=K1
 have w:(prog.info? 37).map (·.size)=some 1:=K1
 have z:(prog.info? 37).map (λ i=>decide (i.bytes<=64))=some true:=K1
 cases h:prog.info? 37 with
 |none=>rw[h]at f;cases f
 |some b=>
  rw[h]at f w z;exact⟨b,rfl,Option.some.inj f,Option.some.inj w,by simpa using z⟩
def Du(c:Cs)(ga E:Option Addr)(gl gc al ac:Nat)(hg:Wl U.frz ga gl c.gs)(br:gl<=1000)(ha:Z3 U.frz E al c.af)(bl:al<=1000)(bb:∀g∈c.gs,g.length<=1000)(bd:c.nm.size<2^60) :
  Qb S 102 #[.agg #[.string c.nm,.int .i64 c.ag,.slice ga gl gc,.slice E al ac]] (λ v U'=>(∃k:ZJ,v=.agg (QY (c,k)).toArray/\WW U' (c,k)/\U'.M=k.F++U.M)/\(∀x o,U.I x=some o->U'.I x=some o)/\U'.tok=U.tok) U:=by
 have bk:=hg.1;have bi:=ha.1
 have ay:Qb S 102 #[.agg #[.string c.nm,.int .i64 c.ag,.slice ga gl gc,.slice E al ac]] (λ v U'=>∃g v' cells G F Y,v=.agg #[.string c.nm,.int .i64 c.ag,g,v']/\Js 37 1 g cells G/\Xa U' cells c.gs/\Js 3 1 v' (c.af.map λ n=>.int .i64 n) F/\U'.M=F++(G++(Y++U.M))/\(∀x o,U.I x=some o->U'.I x=some o)/\U'.tok=U.tok) U:=by
  refine Qb.of (args:=[_]) Oc Qf S1 ?_;obtain⟨bv,i1,i2,i3,i4⟩:=gU
  conv=>whnf
  intro K bo
  conv=>whnf
  intro b2 bp;refine⟨_,.refl _,?_⟩;have hM:((U.put K (.cells [.string c.nm,.int .i64 c.ag,.slice ga gl gc,.slice E al ac].toArray 39)).put b2 (.cells #[.string ⟨#[]⟩,.int .i64 0,.nl,.nl] 39)).M=[.obj b2 (.cells #[.string ⟨#[]⟩,.int .i64 0,.nl,.nl] 39 (0,0))]++.cl K [.string c.nm,.int .i64 c.ag,.slice ga gl gc,.slice E al ac] 39::U.M:=rfl;have bt:U.frz.lg ((U.put K (.cells [.string c.nm,.int .i64 c.ag,.slice ga gl gc,.slice E al ac].toArray 39)).put b2 (.cells #[.string ⟨#[]⟩,.int .i64 0,.nl,.nl] 39)):=⟨λ _ _ h=>h,⟨_,(append_nil _).symm⟩,rfl⟩;refine⟨_,(Q9 [_] hM).cell (i:=2) rfl,?_⟩
  conv=>whnf
  refine Na (n:=gl) pj i1 i2 rfl i3 i4 rfl rfl O1 λ bg bm=>?_;have a2:(((U.put K (.cells [.string c.nm,.int .i64 c.ag,.slice ga gl gc,.slice E al ac].toArray 39)).put b2 (.cells #[.string ⟨#[]⟩,.int .i64 0,.nl,.nl] 39)).put bg (.cells (replicate gl (Value.slice none 0 0)).toArray 37)).M=[.obj bg (.cells (replicate gl (Value.slice none 0 0)).toArray 37 (0,0)),.obj b2 (.cells #[.string ⟨#[]⟩,.int .i64 0,.nl,.nl] 39 (0,0))]++.cl K [.string c.nm,.int .i64 c.ag,.slice ga gl gc,.slice E al ac] 39::U.M:=rfl;refine⟨_,(Q9 [_,_] a2).cell (i:=2) rfl,Nat×Value,λ y=>[(1,.pb K),(2,.pb b2),(3,y.2),(11,.slice ga gl gc),(12,.int .i64 gl),(13,.int .i64 y.1)],
   λ y U'=>U.frz.lg U'/\(∃A cells,U'.M=A++([.obj b2 (.cells #[.string ⟨#[]⟩,.int .i64 0,.nl,.nl] 39 (0,0)),.cl K [.string c.nm,.int .i64 c.ag,.slice ga gl gc,.slice E al ac] 39]++U.M)/\Js 37 1 y.2 cells A/\Xa U' cells (c.gs.take y.1))/\y.1<=gl,λ y=>gl-y.1,(0,.slice (some ⟨bg,0,none⟩) 0 gl),T1,⟨⟨λ _ _ h=>h,⟨_,(append_nil _).symm⟩,rfl⟩,⟨[_],[],rfl,.ofBlk rfl O1 S1 S1,⟨rfl,S1⟩⟩,O1⟩,?_⟩
  rintro⟨i,v⟩f U1⟨H,⟨A,cells,Q,z,w⟩,hi⟩;simp only at z w hi;obtain⟨sa,sl,sc,rfl,bu⟩:=z.src;have bc:Ja ((i:Int)+1):=I1
  have a9:=w.1;rw[length_take]at a9
  repeat apply R1
  conv=>whnf
  apply Qg<;>intro hc
  .have hlt:i<gl:=by simpa using hc
   obtain⟨ad,g,vs,hx,rfl,aq,⟨a',ax,X,rfl,ak,bq⟩,-,be⟩:=Q8.at (Wl.lg hg H) hlt;have bs:=bb g (mem_of_getElem? hx);have bj:=ak.1;refine⟨ad,i,⟨rfl,rfl,hlt⟩,_,be 0 _ rfl,Pb.any,(Qb.ints (e:=3) (DB a' ax X g ak O1)).mono ?_⟩;rintro _ U2⟨⟨ca,cc,rfl,a8⟩,a5⟩-
   conv=>whnf
   intro bn ba;refine Zi ba λ U3 aj V=>?_;have V:Zj U3 bn #[.slice ca g.length cc]:=V;have B:=a5.trans aj
   have W:Xa U3 (cells++[.slice ca g.length cc]) (c.gs.take (i+1)):=by
    rw[Wf hx];exact(w.lg B.lg.frz2).snoc (a8.lg aj.lg.frz2) O1
   conv=>whnf
   refine Wn (v:=.slice sa sl sc) (cs:=cells) (new:=[.slice ca g.length cc]) (M₀:=[.obj b2 (.cells #[.string ⟨#[]⟩,.int .i64 0,.nl,.nl] 39 (0,0)),.cl K [.string c.nm,.int .i64 c.ag,.slice (some ad) gl gc,.slice E al ac] 39]++U.M) wC rfl rfl (by rw[B.own,Q];exact z _) (.inr ⟨_,rfl,V.rd⟩) rfl (by simp[Value.single]) S3 λ v' M' a6 _=>?_;obtain⟨az,a1,P⟩:=a6.split;obtain⟨ta,tl,tc,rfl,-⟩:=P.src;have an:U.frz.lg ({ U3 with M:=M' }:Qa T):=⟨λ x o h=>B.imm x o (H.imm x o h),⟨_,(append_nil _).symm⟩,B.tok.trans H.tok⟩;refine⟨bc,?_⟩
   conv=>whnf
   exact⟨rfl,(i+1,.slice ta tl tc),T1,⟨an,⟨az,_,a1,P,W.lg ⟨λ _ _ h=>h,⟨[],rfl⟩,rfl⟩⟩,by show i+1<=gl;omega⟩,L1⟩
  .have hge:i=c.gs.length:=by simp at hc;omega
   subst hge;rw[take_length]at w;have ap:=Q9 (U:=U1) (b:=K) (e:=39) (M₀:=U.M) (vs:=[.string c.nm,.int .i64 c.ag,.slice ga gl gc,.slice E al ac]) (A++[.obj b2 (.cells #[.string ⟨#[]⟩,.int .i64 0,.nl,.nl] 39 (0,0))]) (by rw[Q];simp);refine⟨_,ap.cell (i:=3) rfl,Pb.any,(DB E al ac c.af (ha.lg H) O1).mono ?_⟩;rintro v U2⟨a7,Z,av⟩-;obtain⟨F,a4,hF⟩:=a7.split;obtain⟨fa,fl,fc,rfl,-⟩:=hF.src;have a3:U2.M=(F++A++[.obj b2 (.cells #[.string ⟨#[]⟩,.int .i64 0,.nl,.nl] 39 (0,0))])++.cl K [.string c.nm,.int .i64 c.ag,.slice ga gl gc,.slice E al ac] 39::U.M:=by rw[a4,Q];simp
   refine⟨rfl,WJ (i:=2) (v:=.slice sa sl sc) _ a3 (by show 2<4;omega) rfl λ U3 a0 bf ai=>?_⟩;refine⟨rfl,WJ (i:=3) (v:=.slice fa fl fc) _ ai (by show 3<4;omega) rfl λ U4 ab bh L=>?_⟩;have L:U4.M=(F++A++[.obj b2 (.cells #[.string ⟨#[]⟩,.int .i64 0,.nl,.nl] 39 (0,0))])++.cl K [.string c.nm,.int .i64 c.ag,.slice sa sl sc,.slice fa fl fc] 39::U.M:=L;have ah:U4.M=(F++A)++.obj b2 (.cells #[.string ⟨#[]⟩,.int .i64 0,.nl,.nl] 39 (0,0))::.cl K [.string c.nm,.int .i64 c.ag,.slice sa sl sc,.slice fa fl fc] 39::U.M:=by rw[L];simp
   refine⟨_,⟨rfl,Q9 _ L⟩,rfl,Wd (vs:=[.string c.nm,.int .i64 c.ag,.slice sa sl sc,.slice fa fl fc]) _ ah rfl (by simp[Value.single]) λ U5 ae aw N=>?_⟩;refine⟨_,⟨rfl,Q9 _ N⟩,?_⟩;have hz:U1.frz.lg U5.frz:=⟨λ x o h=>by show U5.I x=_;rw[ae,ab,a0];exact Z x o h,⟨[],rfl⟩,by show U5.tok=_;rw[aw,bh,bf];exact av⟩
   conv=>whnf
   exact⟨_,_,cells,A,F,[_,_],rfl,z,w.lg hz,hF,by rw[N];simp;exact⟨rfl,rfl⟩,λ x o h=>hz.imm x o (H.imm x o h),hz.tok.trans H.tok⟩
 refine ay.okv λ v U' hw⟨g,v',cells,G,F,Y,hv,hG,w,hF,hM,hI,ht⟩=>?_
 have hp:U'.M.Perm (G++(F++(Y++U.M))):=by
  rw[hM];exact perm_append_comm_assoc _ _ _
 obtain⟨U1,k1,k2,k3,a,len,cap,rfl,hl,au,aq⟩:=hG.freeze (KQ hw) hp;have am:c.gs.length=len:=by rw[<- w.1];omega
 have ao:=(w.lg k3).lists au aq;rw[am]at ao;refine⟨{ U1 with M:=F++U.M },k1.trans (Zz (by rw[k2];exact(Sublist.refl F).append (sublist_append_right Y U.M))),⟨⟨a,len,cap,v',F⟩,hv,⟨ao,by show len<_;omega,hF,bd,by show c.af.length<=_;omega⟩,rfl⟩,λ x o h=>k3.imm x o (hI x o h),k3.tok.trans ht⟩
def E4:List (List (Nat×St)):=[[(0,.xo 19 1 3),(0,.xl 20 19),(0,.xd 21 4 5),(2,.d 22 (.call (.func 102) #[(.t 21)])),(2,.d 23 (.bsl 39 1 #[(.string ⟨#[]⟩),(.int .i64 0),.nl,.nl] [(0,4,(.t 22))]))]]
def MA:List St:=[.xz 24 20 23 23,.xo 25 1 3,⟨.st 1 (.t 25) (.t 24),none,none,none⟩]
def DQ:List (List (Nat×St)):=[[(0,.xo 152 1 10),(0,.xl 153 152),(0,.m 154 15),(0,.xo 155 1 10),(0,.xl 156 155),(0,.m 157 15),(0,.xi 158 4 156 157),(0,.xo 159 3 158),(0,.xl 160 159),(0,.m 161 17),(2,.d 162 (.bsl 3 1 #[(.int .i64 0)] [(0,1,(.t 161))])),(2,.xz 163 160 162 37)]]
def zn:List St:=[.xi 164 4 153 154,.xo 165 3 164,⟨.st 1 (.t 165) (.t 163),none,none,none⟩]
end
variable{h:BH}
def Q8.case(k:Q8 U h.ca h.cl 4 b.cs (HF U))(L:i<h.cl) :
  ∃f c ga gl gc w al ac,b.cs[i]?=some c/\h.ca=some f/\f.spot=none/\Jj U (f.add (i*4)) [.string c.nm,.int .i64 c.ag,.slice ga gl gc,.slice w al ac]/\Wl U ga gl c.gs/\gl<2^60/\Z3 U w al c.af/\al<2^60/\c∈b.cs:=by
 obtain⟨f,c,vs,F,z,E,⟨ga,gl,gc,w,al,ac,rfl,G,H,I,K⟩,-,B⟩:=k.at L;exact⟨f,c,ga,gl,gc,w,al,ac,F,z,E,B,G,H,I,K,mem_of_getElem? F⟩
structure Bk.Sml(b:Bk):Prop where
 rs:b.rs.length<=1000
 cs:b.cs.length<=1000
 gs:∀c∈b.cs,c.gs.length<=1000/\(∀g∈c.gs,g.length<=1000)/\c.af.length<=1000
section
attribute [local irreducible] Qb Zp Wv
def MO(h:BH)(b:Bk)(hb:Zq U.frz h b)(hs:b.Sml) :
  Qb S 117 #[h.v] (λ v U'=>(∃W:BH,v=W.v/\QQ U' W b U.M)/\(∀x o,U.I x=some o->U'.I x=some o)/\U'.tok=U.tok) U:=by
 have b9:=hb.cs.1;have ck:=hb.rs.1;have cm:=hs.rs;have co:=hs.cs
 have bk:Qb S 117 #[h.v] (λ v U'=>∃(W:BH)(H:List (Cs×ZJ))(A R Y:List Qw),v=W.v/\H.map (·.1)=b.cs/\(∀p∈H,WW U' p)/\Js 39 4 (.slice W.ca W.cl W.cc) (H.flatMap QY) A/\U'.M=A++(R++(Y++U.M))/\R.Perm (H.flatMap (·.2.F))/\Q8 U'.frz W.ra W.rl 1 b.rs (λ s vs=>vs=[.string s])/\W.rl<=W.rc/\(∀x o,U.I x=some o->U'.I x=some o)/\U'.tok=U.tok) U:=by
  refine Qb.of (args:=[_]) Fx Qf S1 ?_
  repeat apply R1
  conv=>whnf
  intro B U1 aw hB;have hB:Zj U1 B #[.slice h.ra h.rl h.rc,.slice h.ca h.cl h.cc]:=hB
  conv=>whnf
  intro b2 ce;refine⟨_,.refl _,?_⟩;have a3:=Z2 (U:=U1) b2 (.cells #[.nl,.nl] 111);refine⟨_,(hB.lg a3).sees3 (o:=0) rfl,Ob.any,(Dy h.ra h.rl h.rc b.rs ((hb.rs.lg (aw.lg.frz2.trans a3.frz2) λ _ _ h=>h).lg Qr λ _ _ h=>h) O1).mono ?_⟩;rintro _ U2⟨⟨ra,rl,rc,rfl,N,am⟩,ba⟩-
  conv=>whnf
  intro b3 cf;refine⟨_,.refl _,rfl,HC (vs:=[.slice ra rl rc,.nl]) rfl (by simp[Value.single]) ?_⟩;have bh:=Z2 (U:=U2) b3 (.cells #[.slice ra rl rc,.nl] 25);have aq:U1.lg U2:=a3.trans ba.lg;refine⟨_,(hB.lg (aq.trans bh)).sees3 (o:=1) rfl,?_⟩;have Q:U.frz.lg U2.frz:=aw.lg.frz2.trans aq.frz2
  refine⟨Nat×Value,λ y=>[(1,.pb B),(2,.pb b2),(3,.pb b3),(13,.slice h.ca h.cl h.cc),(14,.int .i64 h.cl),(15,.int .i64 y.1)],
   λ y U'=>U2.frz.lg U'/\(∃(H:List (Cs×ZJ))(A R:List Qw),H.map (·.1)=b.cs.take y.1/\(∀p∈H,WW U' p)/\Js 39 4 y.2 (H.flatMap QY) A/\R.Perm (H.flatMap (·.2.F))/\U'.M=A++(R++([.cl b3 [.slice ra rl rc,y.2] 25,.obj b2 (.cells #[.nl,.nl] 111 (0,0))]++U.M)))/\y.1<=h.cl,
   λ y=>h.cl-y.1,(0,.nl),T1,⟨⟨λ _ _ h=>h,⟨_,(append_nil _).symm⟩,rfl⟩,⟨[],[],[],rfl,S1,.nil,.refl _,?_⟩,O1⟩,?_⟩
  .show _::U2.M=_;rw[ba.own];show _::_::U1.M=_;rw[aw.own];rfl
  rintro⟨i,v⟩f U3⟨K,⟨H,A,R,L,ak,E,hR,P⟩,hi⟩;simp only at L E P hi;obtain⟨sa,sl,sc,rfl,cp⟩:=E.src;have bu:Ja ((i:Int)+1):=I1
  have bw:H.length=i:=by
   have:=congrArg List.length L;rw[length_map,length_take]at this;omega
  repeat apply R1
  conv=>whnf
  apply Qg<;>intro hc
  .have hlt:i<h.cl:=by simpa using hc
   obtain⟨ad,c,ga,gl,gc,aa,al,ac,hx,br,b7,bx,hg,cj,ha,b8,au⟩:=hb.case hlt;obtain⟨cg,bt,ch⟩:=hs.gs c au;have b4:=hg.1;have b1:=ha.1;refine⟨ad,i,⟨br,rfl,hlt⟩,_,⟨rfl,(bx.lg Q).lg K⟩,?_⟩
   conv=>whnf
   intro b5 bs;refine⟨_,.refl _,rfl,Zv (vs:=[.string c.nm,.int .i64 c.ag,.slice ga gl gc,.slice aa al ac]) bs rfl (by simp[Value.single]) λ U4 ax bq=>?_⟩;have ab:=ax.own.trans P;have a1:=K.trans ax.lg;have ao:U.frz.lg U4.frz:=Q.trans a1.frz2;have bc:=hb.cn c au
   let Ub:Qa T:={ U4 with M:=R++([.cl b3 [.slice ra rl rc,.slice sa sl sc] 25,.obj b2 (.cells #[.nl,.nl] 111 (0,0))]++U.M) }
   have bo:Ub.lg U4:=⟨λ _ _ h=>h,⟨A,ab⟩,rfl⟩;have bi:Jj Ub ⟨b3,0,none⟩ [.slice ra rl rc,.slice sa sl sc]:=Q9 R rfl;have bb:Zj Ub b5 #[.string c.nm,.int .i64 c.ag,.slice ga gl gc,.slice aa al ac]:=bq
   conv=>whnf
   intro b0 ah
   refine FD (mu:=[1005]) (ops:=GO Tryz.f117 5) (id:=5) ah Ub bo [3,4] [[0,1,2,3,4]] [5,6,7] E4 MA Qf K1 K1 K1 K1 K1
    (λ f' a5 U'=>a5=[]/\∃(z:Nat)(k:ZJ),Xr f' [(1,.pb B),(2,.pb b2),(3,.pb b3),(13,.slice h.ca h.cl h.cc),(14,.int .i64 h.cl),(15,.int .i64 i),(20,.slice sa sl sc),(23,.slice (some ⟨z,0,none⟩) 1 1)]/\WW U' (c,k)/\Zj U' z (QY (c,k)).toArray/\U4.frz.lg U'/\U'.M=A++(k.F++(R++([.cl b3 [.slice ra rl rc,.slice sa sl sc] 25,.obj b2 (.cells #[.nl,.nl] 111 (0,0))]++U.M)))) ?_ ?_
   .intro l X;simp only[E4,mem_cons,not_mem_nil,or_false]at X;subst X;refine⟨_,bi.cell (i:=1) rfl,_,⟨rfl,bb.rd⟩,?_⟩;refine⟨λ v U'=>∃k:ZJ,v=.agg (QY (c,k)).toArray/\WW U' (c,k)/\U4.frz.lg U'/\U'.M=A++(k.F++(R++([.cl b3 [.slice ra rl rc,.slice sa sl sc] 25,.obj b2 (.cells #[.nl,.nl] 111 (0,0))]++U.M))),λ v U1 U2⟨k,e,hk,X,P⟩w=>⟨k,e,hk.lg w.lg.frz2,X.trans w.lg,w.own.trans P⟩,λ v U'⟨k,e,hk,X,P⟩=>⟨X.imm,⟨A++k.F,by rw[P];simp[Ub]⟩,X.tok⟩,λ U' hC=>?_,λ v hv=>?_⟩
    .have w:=hC;refine⟨Oc.any,(Du c ga aa gl gc al ac (hg.lg (ao.trans w.lg.frz2)) O1 (ha.lg (ao.trans w.lg.frz2)) O1 bt bc).mono ?_⟩;rintro v U''⟨⟨k,e,hk,bn⟩,hI,ht⟩-
     have hp:U''.M.Perm (A++(k.F++(R++([.cl b3 [.slice ra rl rc,.slice sa sl sc] 25,.obj b2 (.cells #[.nl,.nl] 111 (0,0))]++U.M)))):=by
      rw[bn,w.own,ab];exact perm_append_comm_assoc _ _ _
     exact⟨_,W3 hp,k,e,hk.lg ⟨λ _ _ h=>h,⟨[],rfl⟩,rfl⟩,⟨λ x o hx=>hI x o (w.imm x o hx),⟨_,(append_nil _).symm⟩,ht.trans w.tok⟩,rfl⟩
    obtain⟨_,⟨cq,ct,cr,kv,kF⟩,rfl,bv,-⟩:=hv;obtain⟨a0,l0,c0,e0,-⟩:=bv.af.src;obtain rfl:kv=.slice a0 l0 c0:=e0;refine⟨λ v U'=>∃(z:Nat)(k':ZJ),v=.slice (some ⟨z,0,none⟩) 1 1/\WW U' (c,k')/\Zj U' z (QY (c,k')).toArray/\U4.frz.lg U'/\U'.M=A++(k'.F++(R++([.cl b3 [.slice ra rl rc,.slice sa sl sc] 25,.obj b2 (.cells #[.nl,.nl] 111 (0,0))]++U.M))),λ v U1 U2⟨z,k,e,hk,G,X,P⟩w=>⟨z,k,e,hk.lg w.lg.frz2,G.le w,X.trans w.lg,w.own.trans P⟩,λ v U'⟨z,k,e,hk,G,X,P⟩=>⟨X.imm,⟨A++k.F,by rw[P];simp[Ub]⟩,X.tok⟩,λ U' hC=>?_,λ v hv=>?_⟩
    .obtain⟨k',e,ay,az,Z⟩:=hC
     conv=>whnf
     intro z bd;refine Zi bd λ U'' w G=>⟨_,.refl _,z,k',rfl,ay.lg w.lg.frz2,?_,az.trans w.lg,w.own.trans Z⟩;have e':=toArray_inj (Value.agg.inj e);rw[<- e'];exact G
    obtain⟨_,z,k2,rfl,-⟩:=hv
    conv=>whnf
    rintro U'⟨a4,k',e,ay,G,az,Z⟩;obtain rfl:z=a4:=by simpa using e
    exact⟨rfl,z,k',T1,ay,G,az,Z⟩
   rintro f' a5 U5⟨rfl,z,k,be,hk,G,a2,a9⟩;rw[<- be.ovr];clear be;have bg:(H.flatMap QY).length=i*4:=by rw[Qz Zy,bw]
   conv=>whnf
   refine Wn (v:=.slice sa sl sc) (cs:=H.flatMap QY) (new:=QY (c,k)) (M₀:=k.F++(R++([.cl b3 [.slice ra rl rc,.slice sa sl sc] 25,.obj b2 (.cells #[.nl,.nl] 111 (0,0))]++U.M))) FZ rfl rfl (by rw[a9];exact E _) (.inr ⟨_,rfl,G.rd⟩) rfl (by
    have:=hk.af.src;obtain⟨a0,l0,c0,e0,-⟩:=this;simp only[QY];rw[show k.v=.slice a0 l0 c0 from e0];simp[Value.single]) (by rw[bg,Zy];omega) λ v' M' bp _=>?_
   obtain⟨av,Z,an⟩:=bp.split;obtain⟨ta,tl,tc,rfl,-⟩:=an.src;have bl:({ U5 with M:=M' }:Qa T).M=(av++(k.F++R))++.cl b3 [.slice ra rl rc,.slice sa sl sc] 25::.obj b2 (.cells #[.nl,.nl] 111 (0,0))::U.M:=by show M'=_;rw[Z];simp
   refine⟨rfl,WJ (i:=1) (v:=.slice ta tl tc) _ bl (by show 1<2;omega) rfl λ U6 a7 bj ae=>?_⟩;have ae:U6.M=av++((k.F++R)++([.cl b3 [.slice ra rl rc,.slice ta tl tc] 25,.obj b2 (.cells #[.nl,.nl] 111 (0,0))]++U.M)):=by rw[ae];simp
   have ap:U5.frz.lg U6.frz:=⟨λ x o hx=>by show U6.I x=_;rw[a7];exact hx,⟨[],rfl⟩,bj⟩;have bf:U4.frz.lg U6.frz:=a2.frz2.trans ap;have ai:U3.frz.lg U6.frz:=ax.lg.frz2.trans bf
   conv=>whnf
   intro a' aj;refine⟨by rw[aj.size,ah.size],_,aj.get,?_⟩;rw[aj.ds];clear aj ah;refine⟨bu,rfl,(i+1,.slice ta tl tc),T1,⟨⟨λ x o hx=>ai.imm x o (K.imm x o hx),⟨_,(append_nil _).symm⟩,ai.tok.trans K.tok⟩,⟨H++[(c,k)],av,k.F++R,?_,?_,?_,?_,ae⟩,by show i+1<=h.cl;omega⟩,L1⟩
   .rw[map_append,L,Wf hx];rfl
   .intro p hp;rcases mem_append.1 hp with hp|hp
    .exact(ak p hp).lg ai
    .rw[mem_singleton.1 hp];exact hk.lg ap
   .rw[flatMap_append];simpa using an
   .rw[flatMap_append];simp only[flatMap_cons,flatMap_nil,append_nil];exact(Perm.append_left k.F hR).trans perm_append_comm
  .have hge:i=b.cs.length:=by simp at hc;omega
   subst hge;rw[take_length]at L;have bm:U3.M=(A++R)++.cl b3 [.slice ra rl rc,.slice sa sl sc] 25::.obj b2 (.cells #[.nl,.nl] 111 (0,0))::U.M:=by rw[P];simp
   have a8:U3.M=(A++R++[.cl b3 [.slice ra rl rc,.slice sa sl sc] 25])++.obj b2 (.cells #[.nl,.nl] 111 (0,0))::U.M:=by rw[P];simp
   refine⟨_,⟨rfl,Q9 _ bm⟩,rfl,Wd (vs:=[.slice ra rl rc,.slice sa sl sc]) _ a8 rfl (by simp[Value.single]) λ U4 a6 bz ab=>?_⟩;have V:U3.frz.lg U4.frz:=⟨λ x o hx=>by show U4.I x=_;rw[a6];exact hx,⟨[],rfl⟩,bz⟩;refine⟨_,⟨rfl,Q9 _ ab⟩,?_⟩
   conv=>whnf
   exact⟨⟨ra,rl,rc,sa,sl,sc⟩,H,A,R,[_,_],rfl,L,λ p hp=>(ak p hp).lg V,E,by rw[ab];simp;exact⟨rfl,rfl⟩,hR,am.lg (K.frz2.trans V) λ _ _ h=>h,N,λ x o hx=>V.imm x o (K.imm x o (Q.imm x o hx)),V.tok.trans (K.tok.trans Q.tok)⟩
 refine bk.post λ v U'⟨W,H,A,R,Y,hv,L,ak,E,P,hR,am,N,hI,ht⟩=>?_;have b6:=am.1;refine⟨{ U' with M:=A++(R++U.M) },Zz (by rw[P];exact(Sublist.refl A).append ((Sublist.refl R).append (sublist_append_right Y U.M))),⟨W,hv,⟨⟨H,A,L,λ p hp=>(ak p hp).lg ⟨λ _ _ h=>h,⟨[],rfl⟩,rfl⟩,E,Perm.append_left A (Perm.append_right _ hR)⟩,am.lg ⟨λ _ _ h=>h,⟨[],rfl⟩,rfl⟩ λ _ _ h=>h,O1,hb.rn,N⟩⟩,hI,ht⟩
end
variable{l':List Int}
def Xd(l:List Int):Prop:=l.Pairwise (·<=·)
def vo(h:X8 l' l'.length):Xd l':=by
 rw[Xd,pairwise_iff_getElem];intro i j w f b;exact h i j _ _ b f (getElem?_eq_getElem w) (getElem?_eq_getElem f)
def Pi(n x:Int):∀l:List Int,x∈ZA n l↔x=n\/x∈l
 |[]=>by simp[ZA]
 |y::l=>by
  unfold ZA;split
  .simp only[mem_cons,Pi n x l];constructor
   .rintro(h|h|h) <;> simp[h]
   .rintro(h|h|h) <;> simp[h]
  .simp only[mem_cons]
def S4(n:Int):∀l:List Int,Xd l->Xd (ZA n l)
 |[],_=>by simp[ZA,Xd]
 |y::l,h=>by
  unfold Xd at h;rw[pairwise_cons]at h;unfold ZA;split
  .rename_i hlt;unfold Xd;rw[pairwise_cons];refine⟨λ x b=>?_,S4 n l h.2⟩;rcases(Pi n x l).1 b with rfl|b
   .omega
   .exact h.1 x b
  .rename_i hge;unfold Xd;rw[pairwise_cons,pairwise_cons];refine⟨λ x b=>?_,h⟩;rcases mem_cons.1 b with rfl|b
   .omega
   .have:=h.1 x b;omega
def VP(n:Int):∀l:List Int,(ZA n l).Perm (l++[n])
 |[]=>by simp[ZA]
 |y::l=>by
  unfold ZA;split
  .exact(VP n l).cons y
  .exact(perm_append_comm (l₁:=[n]) (l₂:=y::l))
def vZ(h:Xd Y)(f:l'.Perm (Y++[B]))(w:X8 l' l'.length):l'=ZA B Y:=
 Perm.eq_of_pairwise (le:=(·<=·)) (λ a b _ _ f w=>O1) (vo w) (S4 B Y h) (f.trans (VP B Y).symm)
def Df(h:g[i]?=some L):∃X Y,g=X++L::Y/\X.length=i/\∀a',g.set i a'=X++a'::Y:=by
 obtain⟨b,rfl⟩:=List.getElem?_eq_some_iff.1 h;refine⟨g.take i,g.drop (i+1),?_,S3,λ a'=>?_⟩
 .rw[getElem_cons_drop,take_append_drop]
 .rw[set_eq_take_append_cons_drop,if_pos b]
section
attribute [local irreducible] Qb Zp Wv
def zt(h:BH)(b:Bk)(M₀:List Qw)(ho:QQ U h b M₀)(k:Nat)(n:Int)(hk:k<b.cs.length)(ai:Xd (b.cas k).af)(bc:(b.cas k).af.length<=11) :
  Qb S 118 #[h.v,.agg #[.int .i64 k,.int .i64 n]] (λ _ U'=>QQ U' h (b.sty ((k:Int),n)) M₀/\(∀x o,U.I x=some o->U'.I x=some o)/\U'.tok=U.tok) U:=by
 obtain⟨ps,A,aq,ao,a5,hM⟩:=ho.ex;have bm:k<ps.length:=by rw[<- aq,length_map]at hk;exact hk
 obtain⟨p,hp⟩:∃p,ps[k]?=some p:=⟨_,getElem?_eq_getElem bm⟩;obtain⟨X,Y,rfl,hX,be⟩:=Df hp;obtain⟨c,Z,ab,aa,kv,W⟩:=p
 have ae:b.cas k=c:=by
  have:=congrArg (λ l=>l[k]?) aq;simp only[getElem?_map,hp]at this;simp[Bk.cas,getD_eq_getElem?_getD,<- this]
 rw[ae]at ai bc;have ap:=ao _ (mem_of_getElem? hp);obtain⟨a0,l0,c0,e0,bo⟩:=ap.af.src;obtain rfl:kv=.slice a0 l0 c0:=e0;have hF:Js 3 1 (.slice a0 l0 c0) (c.af.map λ n=>.int .i64 n) W:=ap.af;obtain⟨cb,cc,aw,av,aj,K,a9,L,rfl,a8⟩:=a5.blk (by simp[QY]);have bl:h.cl=aw:=by have:=Value.slice.inj aj;exact this.2.1
 have am:h.ca=some ⟨cb,0,none⟩:=by have:=Value.slice.inj aj;exact this.1
 have ad:h.cc=av:=by have:=Value.slice.inj aj;exact this.2.2
 have ah:k<h.cl:=by
  rw[Qz Zy]at K;omega
 have N:U.M.Perm (W++(.obj cb (.cells cc.toList.toArray 39 (0,0))::((X.flatMap (·.2.F)++Y.flatMap (·.2.F))++M₀))):=by
  refine hM.trans ?_;rw[flatMap_append,flatMap_cons];show Perm (.obj cb (.cells cc 39 (0,0))::(X.flatMap (·.2.F)++(W++Y.flatMap (·.2.F))++M₀)) _;refine Perm.trans (Perm.cons _ ?_) perm_middle.symm;rw[<- append_assoc W];refine Perm.append_right _ ?_;rw[<- append_assoc,<- append_assoc];exact Perm.append_right _ perm_append_comm
 have an:∀j,j<4->cc.toList[k*4+j]?=(QY (c,⟨Z,ab,aa,.slice a0 l0 c0,W⟩))[j]?:=by
  intro j hj;have h1:=P5 Zy hp hj;have h2:∃x,(QY (c,(⟨Z,ab,aa,.slice a0 l0 c0,W⟩:ZJ)))[j]?=some x:=⟨_,getElem?_eq_getElem (by rw[Zy];exact hj)⟩;obtain⟨x,w⟩:=h2;rw[w]at h1 ⊢;rw[Array.getElem?_toList];exact a8 _ _ h1
 refine Qb.shift (W3 N) ?_;generalize au:(X.flatMap (·.2.F)++Y.flatMap (·.2.F))++M₀=rest at N ⊢;generalize a3:({ U with M:=W++(.obj cb (.cells cc.toList.toArray 39 (0,0))::rest) }:Qa T)=U₀;have az:U₀.M=W++(.obj cb (.cells cc.toList.toArray 39 (0,0))::rest):=by rw[<- a3]
 have bt:U.frz.lg U₀.frz:=by rw[<- a3];exact⟨λ _ _ h=>h,⟨[],rfl⟩,rfl⟩
 have bg:Qb S 118 #[h.v,.agg #[.int .i64 k,.int .i64 n]] (λ _ U'=>(∃v' P,Js 3 1 v' ((ZA n c.af).map λ n=>.int .i64 n) P/\v'.single=true/\U'.M=P++(.obj cb (.cells (cc.setIfInBounds (k*4+3) v') 39 (0,0))::rest))/\(∀x o,U₀.I x=some o->U'.I x=some o)/\U'.tok=U₀.tok) U₀:=by
  refine Qb.of (args:=[_,_]) Fy Qf S1 ?_
  repeat apply R1
  conv=>whnf
  intro B U1 al hB;have hB:Zj U1 B #[.slice h.ra h.rl h.rc,.slice h.ca h.cl h.cc]:=hB
  conv=>whnf
  intro b3 U2 Q H;have H:Zj U2 b3 #[.int .i64 k,.int .i64 n]:=H;have hB:=hB.le Q;have ac:U2.M=W++.obj cb (.cells cc.toList.toArray 39 (0,0))::rest:=(al.trans Q).own.trans az;have bp:=Q9 _ ac
  have br:U2.sees (((Addr.mk cb 0 none).add (k*4)).add 3) (.slice a0 l0 c0):=by
   have:=bp (k*4+3) (.slice a0 l0 c0) (an 3 O1);rw[Qo]at this;rw[Qo,Qo,Nat.add_assoc];exact this
  refine⟨_,hB.sees3 (o:=1) rfl,_,H.sees3 (o:=0) rfl,⟨cb,0,none⟩,k,⟨am,rfl,ah⟩,_,br,_,H.sees3 (o:=1) rfl,λ v U'=>∃z,v=.slice (some ⟨z,0,none⟩) 1 1/\Zj U' z #[.int .i64 n],λ v U1 U2⟨z,e,hb⟩bb=>⟨z,e,hb.le bb⟩,λ U' bb hC=>?_,λ v hv=>?_⟩
  .conv=>whnf
   intro z ba;exact Zi ba λ U3 G hb=>⟨_,.refl _,⟨z,rfl,hb⟩,G⟩
  obtain⟨_,-,-,z,rfl,-⟩:=hv
  conv=>whnf
  intro U3 G hC;obtain⟨-,bu,bh,a6⟩:=hC;cases bh;have a1:=G.own.trans ac;have bv:c.af.length=l0:=by simpa using bo
  conv=>whnf
  refine Wn (v:=.slice a0 l0 c0) (cs:=c.af.map λ n=>.int .i64 n) (new:=[.int .i64 n]) (M₀:=.obj cb (.cells cc.toList.toArray 39 (0,0))::rest) H0 rfl rfl (by rw[a1];exact hF _) (.inr ⟨_,rfl,a6.rd⟩) rfl (by simp[Value.single]) S3 λ v' M' V _=>?_;have V:Acc 3 1 v' ((c.af++[n]).map λ n=>.int .i64 n) M' (.obj cb (.cells cc.toList.toArray 39 (0,0))::rest):=by simpa using V
  obtain⟨ta,tc,rfl,-⟩:=Sk (U:={ U3 with M:=M' }) V;refine⟨Fq.any,(zs (U:={ U3 with M:=M' }) _ (c.af++[n]) _ V S3).mono ?_⟩;rintro _ U4⟨ax,bs,l',bd,bq,a4⟩-;have bn:l'=ZA n c.af:=vZ ai bd (by rw[bd.length_eq];exact bq);subst bn;obtain⟨P,bk,ak⟩:=a4.split;have E:∀x o,U2.I x=some o->U4.I x=some o:=λ x o w=>ax x o (G.imm x o w);have bi:=hB.imI E;have a7:=H.imI E;refine⟨_,bi.sees3 (o:=1) rfl,_,a7.sees3 (o:=0) rfl,⟨cb,0,none⟩,k,⟨am,rfl,ah⟩,rfl,?_⟩;rw[show((Addr.mk cb 0 none).add (k*4)).add 3=(Addr.mk cb 0 none).add (k*4+3) by rw[Qo,Qo,Qo,Nat.add_assoc]];refine WJ (i:=k*4+3) (v:=.slice ta (c.af++[n]).length tc) P bk (by simp;rw[L,<- ad];omega) rfl λ U5 ay bf a2=>?_;refine⟨⟨_,P,ak,rfl,by rw[a2]⟩,λ x o w=>?_,?_⟩
  .rw[ay];exact E x o ((al.trans Q).imm x o w)
  .rw[bf];exact bs.trans (G.tok.trans (al.trans Q).tok)
 refine bg.mono ?_;rintro v U'⟨⟨v',P,ak,bw,bj⟩,hI,ht⟩;have hz:U.frz.lg U'.frz:=bt.trans ⟨hI,⟨[],rfl⟩,ht⟩;refine⟨⟨⟨X++({ c with af:=ZA n c.af },⟨Z,ab,aa,v',P⟩)::Y,[.obj cb (.cells (cc.setIfInBounds (k*4+3) v') 39 (0,0))],?_,?_,?_,?_⟩,ho.rs.lg hz λ _ _ h=>h,ho.rl,ho.rn,ho.rc⟩,hz.imm,hz.tok⟩
 .show _=(b.cs.set (k:Int).toNat { b.cas (k:Int).toNat with af:=ZA n (b.cas (k:Int).toNat).af });rw[Int.toNat_natCast,ae,<- aq,<- map_set (f:=λ p:Cs×ZJ=>p.1) (a:=({ c with af:=ZA n c.af },(⟨Z,ab,aa,v',P⟩:ZJ)))];rw[be]
 .intro q hq;rw[mem_append,mem_cons]at hq;rcases hq with hq|rfl|hq
  .exact(ao q (by simp[hq])).lg hz
  .have:=ap.lg hz
   exact⟨this.gs,this.gl,ak,this.nm,by
    show(ZA n c.af).length<=_;rw[(VP n c.af).length_eq];simp;omega⟩
  .exact(ao q (by simp[hq])).lg hz
 .rw[am,bl,ad];refine .ofBlk ?_ a9 (by simp[L]) λ i x w=>?_
  .rw[Qz Zy]at K ⊢;simpa using K
  .have hlen1:(X.flatMap QY).length=k*4:=by rw[Qz Zy,hX]
   rw[Array.getElem?_setIfInBounds];rw[flatMap_append,flatMap_cons]at w;have ag:=a8 i;rw[flatMap_append,flatMap_cons]at ag;by_cases e:k*4+3=i
   .subst e;rw[if_pos rfl,if_pos (by rw[L];omega)];rw[getElem?_append_right O1,hlen1,Nat.add_sub_cancel_left,getElem?_append_left (by rw[Zy];omega)]at w;exact w
   .rw[if_neg e];refine ag x ?_;by_cases h1:i<k*4
    .rw[getElem?_append_left O1]at w ⊢;exact w
    .rw[getElem?_append_right O1,hlen1]at w ⊢;by_cases h2:i-k*4<4
     .rw[getElem?_append_left (by rw[Zy];exact h2)]at w ⊢;have:i-k*4=0\/i-k*4=1\/i-k*4=2:=O1
      rcases this with e|e|e <;> rw[e]at w ⊢ <;> exact w
     .rw[getElem?_append_right (by rw[Zy];omega)]at w ⊢;exact w
 .rw[bj,<- au,flatMap_append,flatMap_cons];show Perm _ (.obj cb _::(X.flatMap (·.2.F)++(P++Y.flatMap (·.2.F))++M₀));refine Perm.trans perm_middle (Perm.cons _ ?_);rw[<- append_assoc P];refine Perm.append_right _ ?_;rw[<- append_assoc,<- append_assoc];exact Perm.append_right _ perm_append_comm
end
variable{enc:α->List Value}
def JQ(U:Qa T)(v:Value)(l:List Int):Prop:=∃a cap,v=.slice a l.length cap/\Z3 U a l.length l/\l.length<=cap
def JQ.lg{v:Value}{l:List Int}(h:JQ U v l)(b:U.lg U'):JQ U' v l:=let ⟨a,c,e,h,r⟩:=h;⟨a,c,e,h.lg b,r⟩
def JQ.nil:JQ U .nl []:=⟨none,0,rfl,⟨rfl,λ i x h=>by simp at h⟩,Nat.le_refl _⟩
def JQ.v{v:Value}{l:List Int}(h:JQ U v l):Jw U v l:=let ⟨a,c,e,h,_⟩:=h;⟨a,c,e,h⟩
def Gp(S:Sys P T)(g:FuncId)(first f:Array Value)(enc:α->List Value)(n:Nat)(B:List (List α))(I:Nat->Qa T->Prop)(E:Qa T->Prop)(U₀:Qa T):Prop:=
 ∀(k:Nat)(p:List α)(a:Option Addr)(cap:Nat)(U:Qa T)(X h:List Qw),B[k]?=some p->U₀.frz.lg U.frz->Q8 U.frz a p.length n p (λ x vs=>vs=enc x)->((∀w,a=some w->w.spot=none)/\p.length<=cap)->U.M=X++h->I k ⟨U.I,h,U.tok⟩ ->
  Qb S g (first.toList++[Value.slice a p.length cap]++f.toList).toArray (λ v U'=>(v=.bool false/\U.frz.lg U'.frz/\∃b,U'.M=X++b/\I (k+1) ⟨U'.I,b,U'.tok⟩)\/(v=.bool true/\∃z b,U'.M=z++b/\E ⟨U'.I,b,U'.tok⟩/\∀x o,U.I x=some o->U'.I x=some o)) U
def Src.lg'(h:Src U a cs)(k:U.lg U'):Src U' a cs:=h.imp id λ⟨b,e,r⟩=>⟨b,e,r.lg k⟩
def Hv(z:∀x,(enc x).length=n)(h:Src U a (g.flatMap enc))(w:∀b,a=some b->b.spot=none)(f:0<n):Q8 U a g.length n g λ x vs=>vs=enc x:=by
 refine⟨rfl,λ i x H=>?_⟩
 have E:(g.flatMap enc)≠[]:=by
  intro I;have:=Qz z g;rw[I]at this;have d:=(List.getElem?_eq_some_iff.1 H).1;have Q:0<g.length*n:=Nat.mul_pos O1 f;simp at this;omega
 rcases h with⟨_,B⟩|⟨b,rfl,L⟩
 .exact absurd B E
 .refine⟨b,enc x,rfl,w b rfl,rfl,z x,λ j v G=>?_⟩;have K:j<n:=by have:=(List.getElem?_eq_some_iff.1 G).1;rw[z]at this;exact this
  have F:=L (i*n+j) v (by rw[P5 z H K];exact G);obtain⟨bb,N,P⟩:=b;cases w ⟨bb,N,P⟩ rfl;rw[Qo]at F;rw[Qo,Qo,Nat.add_assoc];exact F
variable{ps:List (List (Int×Int))}{I:Nat->Qa T->Prop}{E:Qa T->Prop}{U₀:Qa T}
section
attribute [local irreducible] Qb Zp Wv
def VF:X3 prog 49 60 2:=.of K1
def pk:prog.underlying 49=some (.slice 60):=K1
def Zx(n:Int):List Value:=[.int .i64 n]
def DP:List (List (Nat×St)):=[[(0,.xl 26 5),(0,.m 27 0),(0,.xo 28 0 4),(0,.xl 29 28),(0,.m 30 9),(0,.xi 31 2 29 30),(0,.xd 32 2 31),(0,.m 35 9),(0,.xa 36 35),(2,.d 33 (.bsl 60 1 #[(.int .i64 0),(.int .i64 0)] [(0,2,(.t 32))])),(2,.xz 34 27 33 49)]]
def zm:List St:=[.d 37 (.call (.t 26) #[(.t 34),(.t 36)])]
def DO:List (List (Nat×St)):=[[(0,.xl 26 5),(0,.m 27 0),(0,.xo 28 0 4),(0,.xl 29 28),(0,.m 30 9),(0,.xi 31 1 29 30),(0,.xl 32 31),(0,.m 35 9),(0,.xa 36 35),(2,.d 33 (.bsl 3 1 #[(.int .i64 0)] [(0,1,(.t 32))])),(2,.xz 34 27 33 37)]]
def zl:List St:=[.d 37 (.call (.t 26) #[(.t 34),(.t 36)])]
def encII(p:Int×Int):List Value:=[.int .i64 p.1,.int .i64 p.2]
def Ml(a:Option Addr)(cap:Nat)(l:List (Int×Int))(Y:Src U a (l.flatMap encII))(X:l.length<=1000) :
  Qb S 116 #[.slice a l.length cap] (λ v U'=>(∃a' b,v=.slice a' l.length b/\Q8 U'.frz a' l.length 2 l (λ x vs=>vs=encII x)/\(∀z,a'=some z->z.spot=none)/\l.length<=b)/\U.le U') U:=by
 have B:(l.flatMap encII).length=l.length*2:=Qz (f:=encII) (λ _=>rfl) l
 have T:∀w∈l.flatMap encII,w.single=true:=by
  intro w hw;obtain⟨x,_,V⟩:=mem_flatMap.1 hw;simp[encII]at V
  first|(rcases V with rfl|rfl <;> rfl)|(subst V;rfl)
 have N:Qb S 116 #[.slice a l.length cap] (λ v U'=>Acc 60 2 v (l.flatMap encII) U'.M U.M/\(∀x o,U.I x=some o->U'.I x=some o)/\U'.tok=U.tok) U:=by
  refine Qb.of (args:=[_]) Fw Qf S1 ?_
  conv=>whnf
  refine Vy pk rfl ?_
  conv=>whnf
  apply Qg<;>intro W
  .have P:a=none:=by simpa using W
   subst P
   have:l=[]:=by
    rcases Y with⟨_,F⟩|⟨z,F,_⟩
    .cases l with
     |nil=>rfl
     |cons x r=>simp[encII]at F
    .cases F
   subst this
   repeat apply R1
   conv=>whnf
   exact⟨.nil,λ _ _ h=>h,rfl⟩
  .obtain⟨z,rfl⟩:∃z,a=some z:=by cases a with|none=>cases W|some z=>exact⟨z,rfl⟩
   conv=>whnf
   intro b5 aa;refine⟨_,.refl _,?_⟩
   have E:Src (U.put b5 (.cells #[] 60)) (some z) (l.flatMap encII):=by
    rcases Y with⟨F,_⟩|⟨Z,e,hr⟩
    .cases F
    .cases e;exact .inr ⟨_,rfl,hr.lg (Z2 b5 _)⟩
   conv=>whnf
   refine Wn (v:=.slice (some ⟨b5,0,none⟩) 0 0) (cs:=[]) (new:=l.flatMap encII) (M₀:=U.M) VF rfl rfl .empty E B T (by rw[B,length_nil];omega) λ v' M' G _=>?_;obtain⟨ta,tl,tc,rfl,-,-⟩:=Acc.src (U:={ U with M:=M' }) G
   repeat apply R1
   conv=>whnf
   exact⟨by simpa using G,λ _ _ h=>h,rfl⟩
 refine N.sep λ v U' E⟨P,hI,ht⟩=>?_;obtain⟨U'',k1,k2,a',L,b,rfl,Q,K,H,_⟩:=P.freeze E hI ht;have:l.length=L:=by have e:=B.symm.trans Q;omega
 subst this;exact⟨U'',k1,⟨a',b,rfl,Hv (enc:=encII) (n:=2) (λ _=>rfl) K H D1,H,P.room⟩,k2⟩
structure GG(U:Qa T)(l:List (Int×Int))(many:Nat)(g:FuncId)(first capt:Array Value)(bm bt bl bn:Nat):Prop where
 m:Zj U bm #[.int .i64 many]
 t:Zj U bt #[.func (.func g) first capt]
 l:∃a cap,Zj U bl #[.slice a l.length cap]/\Q8 U.frz a l.length 2 l (λ x vs=>vs=encII x)
 n:Zj U bn #[.func (.func 115) #[] #[.pb bm,.pb bt,.pb bl,.pb bn]]
def GG.lg{U':Qa T}{l:List (Int×Int)}{f:Nat}{g:FuncId}{first b:Array Value}{bm B w z:Nat}(h:GG U l f g first b bm B w z)(k:U.frz.lg U'.frz):GG U' l f g first b bm B w z:=
 ⟨h.m.imI k.imm,h.t.imI k.imm,let ⟨a,c,h1,h2⟩:=h.l;⟨a,c,h1.imI k.imm,h2.lg k λ _ _ h=>h⟩,h.n.imI k.imm⟩
def Mk(a:Option Addr)(cap:Nat)(l:List Int)(Y:Src U a (l.flatMap Zx))(X:l.length<=1000) :
  Qb S 140 #[.slice a l.length cap] (λ v U'=>(∃a' b,v=.slice a' l.length b/\Q8 U'.frz a' l.length 1 l (λ x vs=>vs=Zx x)/\(∀z,a'=some z->z.spot=none)/\l.length<=b)/\U.le U') U:=by
 have B:(l.flatMap Zx).length=l.length*1:=Qz (f:=Zx) (λ _=>rfl) l
 have T:∀w∈l.flatMap Zx,w.single=true:=by
  intro w hw;obtain⟨x,_,V⟩:=mem_flatMap.1 hw;simp[Zx]at V
  first|(rcases V with rfl|rfl <;> rfl)|(subst V;rfl)
 have N:Qb S 140 #[.slice a l.length cap] (λ v U'=>Acc 3 1 v (l.flatMap Zx) U'.M U.M/\(∀x o,U.I x=some o->U'.I x=some o)/\U'.tok=U.tok) U:=by
  refine Qb.of (args:=[_]) Pb Qf S1 ?_
  conv=>whnf
  refine Vy Pt rfl ?_
  conv=>whnf
  apply Qg<;>intro W
  .have P:a=none:=by simpa using W
   subst P
   have:l=[]:=by
    rcases Y with⟨_,F⟩|⟨z,F,_⟩
    .cases l with
     |nil=>rfl
     |cons x r=>simp[Zx]at F
    .cases F
   subst this
   repeat apply R1
   conv=>whnf
   exact⟨.nil,λ _ _ h=>h,rfl⟩
  .obtain⟨z,rfl⟩:∃z,a=some z:=by cases a with|none=>cases W|some z=>exact⟨z,rfl⟩
   conv=>whnf
   intro b5 aa;refine⟨_,.refl _,?_⟩
   have E:Src (U.put b5 (.cells #[] 3)) (some z) (l.flatMap Zx):=by
    rcases Y with⟨F,_⟩|⟨Z,e,hr⟩
    .cases F
    .cases e;exact .inr ⟨_,rfl,hr.lg (Z2 b5 _)⟩
   conv=>whnf
   refine Wn (v:=.slice (some ⟨b5,0,none⟩) 0 0) (cs:=[]) (new:=l.flatMap Zx) (M₀:=U.M) H0 rfl rfl .empty E B T (by rw[B,length_nil];omega) λ v' M' G _=>?_;obtain⟨ta,tl,tc,rfl,-,-⟩:=Acc.src (U:={ U with M:=M' }) G
   repeat apply R1
   conv=>whnf
   exact⟨by simpa using G,λ _ _ h=>h,rfl⟩
 refine N.sep λ v U' E⟨P,hI,ht⟩=>?_;obtain⟨U'',k1,k2,a',L,b,rfl,Q,K,H,_⟩:=P.freeze E hI ht;have:l.length=L:=by have e:=B.symm.trans Q;omega
 subst this;exact⟨U'',k1,⟨a',b,rfl,Hv (enc:=Zx) (n:=1) (λ _=>rfl) K H D1,H,P.room⟩,k2⟩
structure GF(U:Qa T)(l:List Int)(many:Nat)(g:FuncId)(first capt:Array Value)(bm bt bl bn:Nat):Prop where
 m:Zj U bm #[.int .i64 many]
 t:Zj U bt #[.func (.func g) first capt]
 l:∃a cap,Zj U bl #[.slice a l.length cap]/\Q8 U.frz a l.length 1 l (λ x vs=>vs=Zx x)
 n:Zj U bn #[.func (.func 139) #[] #[.pb bm,.pb bt,.pb bl,.pb bn]]
def GF.lg{U':Qa T}{l:List Int}{f:Nat}{g:FuncId}{first b:Array Value}{bm B w z:Nat}(h:GF U l f g first b bm B w z)(k:U.frz.lg U'.frz):GF U' l f g first b bm B w z:=
 ⟨h.m.imI k.imm,h.t.imI k.imm,let ⟨a,c,h1,h2⟩:=h.l;⟨a,c,h1.imI k.imm,h2.lg k λ _ _ h=>h⟩,h.n.imI k.imm⟩
def qv(l:List (Int×Int))(hl:l.length<=1000)(ak:Nat)(hm:ak<=1000)(g:FuncId)(first an:Array Value)(hg:(prog.funcs[g]?.any λ fd=>fd.body.isSome&&fd.name != "runtime.NumGoroutine")=true){bt bl bn:Nat}
  (a8:∀k L Y,L.le Y->I k L->I k Y) (bk:Gp S g first an encII 2 ps I E U₀) :
  ∀(m:Nat)(x:List (Int×Int))(i j:Nat)(xv:Value)(U:Qa T)(Z Mc:List Qw),x.length+m=ak->i<=l.length->U₀.frz.lg U.frz->GG U l ak g first an r bt bl bn->Acc 60 2 xv (x.flatMap encII) U.M (Z++Mc)->(∀(i':Nat)q,(TM.parts (l.drop i) m)[i']?=some q->ps[j+i']?=some (x++q))->I j ⟨U.I,Mc,U.tok⟩ ->
   Qb S 115 #[xv,.int .i64 i,.pb r,.pb bt,.pb bl,.pb bn]
    (λ v U'=>(v=.bool false/\U.frz.lg U'.frz/\∃w,Acc 60 2 xv (x.flatMap encII) U'.M (Z++w)/\I (j+(TM.parts (l.drop i) m).length) ⟨U'.I,w,U'.tok⟩)\/(v=.bool true/\∃X' w,U'.M=X'++w/\E ⟨U'.I,w,U'.tok⟩/\∀x o,U.I x=some o->U'.I x=some o)) U:=by
 intro m
 induction m with
 |zero=>
  intro x i j xv U Z Mc bo hi h0 ab F V hI;obtain⟨sa,sl,sc,rfl,au,a7⟩:=F.src;have av:x.length=sl:=by have e:=(Qz (f:=encII) (n:=2) (λ _=>rfl) x).symm.trans au;omega
  subst av
  obtain⟨A,hA⟩:∃A,U.M=A++(Z++Mc):=by
   rcases F with⟨_,_,hM⟩|⟨b,c,len,cap,_,_,_,_,hM,_⟩
   .exact⟨[],hM⟩
   .exact⟨[_],hM⟩
  refine Qb.of (args:=[_,_,_,_,_,_]) VA Qf S1 ?_;refine⟨_,ab.m.sees3 (o:=0) rfl,?_⟩
  repeat apply R1
  conv=>whnf
  apply Qg<;>intro hc
  .refine⟨_,ab.t.sees3 (o:=0) rfl,λ v U'=>∃a' am,v=.slice a' x.length am/\Q8 U'.frz a' x.length 2 x (λ x vs=>vs=encII x)/\(∀ad,a'=some ad->ad.spot=none)/\x.length<=am,λ v L Y⟨a',c',e,h,s⟩z=>⟨a',c',e,h.lg z.lg.frz2 λ _ _ h=>h,s⟩,λ U' z hC=>?_,λ v hv=>?_⟩
   .refine⟨Fw.any,(Ml sa sc x (Src.lg' a7 z.lg) O1).mono ?_⟩;rintro v U''⟨hv,a4⟩-;exact⟨U'',.refl _,hv,a4⟩
   obtain⟨_,-,-,a',c',rfl,-⟩:=hv
   conv=>whnf
   intro L aa hC;obtain⟨-,a2,c2,e2,hr,hs⟩:=hC;cases e2;have a5:ps[j]?=some x:=by have:=V 0 [] (by rw[GZ];rfl);simpa using this
   have ay:L.M=(A++Z)++Mc:=by rw[aa.own,hA,append_assoc]
   refine⟨hg,(bk j x a' c' L (A++Z) Mc a5 (h0.trans aa.lg.frz2) hr hs ay (a8 j ⟨U.I,Mc,U.tok⟩ ⟨L.I,Mc,L.tok⟩ ⟨aa.imm,rfl,aa.tok⟩ hI)).mono ?_⟩;rintro v Y (⟨rfl,ai,w,X,ax⟩|⟨rfl,X',w,X,hE,ah⟩) -
   .repeat apply R1
    conv=>whnf
    refine .inl ⟨rfl,aa.lg.frz2.trans ai,w,?_,by rw[GZ];exact ax⟩;rcases F with⟨e1,g2,hM⟩|⟨b,c,len,cap,e1,g1,g2,g3,hM,g5⟩
    .refine .inl ⟨e1,g2,?_⟩
     have:A=[]:=by
      rw[hM]at hA;exact self_eq_append_left.1 hA
     rw[X,this];rfl
    .refine .inr ⟨b,c,len,cap,e1,g1,g2,g3,?_,g5⟩
     have:A=[.obj b (.cells c 60 (0,0))]:=by
      rw[hM]at hA;exact(append_cancel_right (show[Qw.obj b (.cells c 60 (0,0))]++(Z++Mc)=A++(Z++Mc) from hA)).symm
     rw[X,this,append_assoc];rfl
   .repeat apply R1
    conv=>whnf
    exact .inr ⟨rfl,X',w,X,hE,λ x o hx=>ah x o (aa.imm x o hx)⟩
  .simp at hc;omega
 |succ m ih=>
  intro x i j xv U Z Mc bo hi h0 ab F V hI;obtain⟨sa,sl,sc,rfl,au,-⟩:=F.src;have av:x.length=sl:=by have e:=(Qz (f:=encII) (n:=2) (λ _=>rfl) x).symm.trans au;omega
  subst av;have bf:(x.flatMap encII).length=x.length*2:=Qz (f:=encII) (λ _=>rfl) x;refine Qb.of (args:=[_,_,_,_,_,_]) VA Qf S1 ?_;refine⟨_,ab.m.sees3 (o:=0) rfl,?_⟩
  repeat apply R1
  conv=>whnf
  apply Qg<;>intro hc
  .simp at hc;omega
  clear hc
  refine⟨Nat×Nat,λ y=>[(0,.slice sa x.length sc),(2,.pb r),(3,.pb bt),(4,.pb bl),(5,.pb bn),(9,.int .i64 y.1)],
   λ y U'=>U.frz.lg U'.frz/\y.1<=l.length/\(∃w,Acc 60 2 (.slice sa x.length sc) (x.flatMap encII) U'.M (Z++w)/\I y.2 ⟨U'.I,w,U'.tok⟩)/\(∀(i':Nat)q,(TM.parts (l.drop y.1) (m+1))[i']?=some q->ps[y.2+i']?=some (x++q))/\y.2+(TM.parts (l.drop y.1) (m+1)).length=j+(TM.parts (l.drop i) (m+1)).length,
   λ y=>l.length-y.1,(i,j),T1,⟨⟨λ _ _ h=>h,⟨[],rfl⟩,rfl⟩,hi,⟨Mc,F,hI⟩,V,rfl⟩,?_⟩
  rintro⟨i,jj⟩f L⟨ai,hi,⟨w,F,hI⟩,V,P⟩;simp only at hi V P hI;have ao:=ab.lg ai;obtain⟨la,lc,az,aq⟩:=ao.l;have a3:Ja ((i:Int)+1):=I1
  refine⟨_,az.sees3 (o:=0) rfl,?_⟩
  repeat apply R1
  conv=>whnf
  apply Qg<;>intro hc
  .have hlt:i<l.length:=by simpa using hc
   obtain⟨ad,e,vs,hx,rfl,bp,rfl,-,bj⟩:=Q8.at aq hlt;have bi:=D9 (m:=m) hx;rw[bi]at V P;rw[length_append,length_map]at P;have bh:Zj L.frz bn _:=ao.n.imI λ _ _ h=>h;have bg:Zj L.frz bl _:=az.imI λ _ _ h=>h
   conv=>whnf
   intro ac Q
   refine Sf (mu:=[1006]) (ops:=GO Tryz.f115 6) (id:=6) Q [7,8] [[0,1,2,3,4,5,6,9,10,7,8]] [11] DP zm Qf K1 K1 K1 K1 K1
    (λ f' aw U'=>aw=[]/\∃(al:Value)(Zn:List Qw),Xr f' [(0,.slice sa x.length sc),(2,.pb r),(3,.pb bt),(4,.pb bl),(5,.pb bn),(9,.int .i64 i),(26,.func (.func 115) #[] #[.pb r,.pb bt,.pb bl,.pb bn]),(34,al),(36,.int .i64 ((i:Int)+1))]/\Acc 60 2 al (x.flatMap encII++encII e) U'.M (Zn++(Z++w))/\(∀ae B,Acc 60 2 al (x.flatMap encII++encII e) ae (Zn++B)->∃M3:List Qw,M3.Sublist ae/\Acc 60 2 (.slice sa x.length sc) (x.flatMap encII) M3 B)/\L.frz.lg U') ?_ ?_
   .intro l' hl';simp only[DP,mem_cons,not_mem_nil,or_false]at hl';subst hl';refine⟨_,bh.sees3 (o:=0) rfl,_,bg.sees3 (o:=0) rfl,ad,i,⟨rfl,rfl,hlt⟩,_,⟨rfl,bj⟩,a3,λ v U'=>∃N,v=.slice (some ⟨N,0,none⟩) 1 1/\Zj U' N (encII e).toArray/\L.le U',λ v L Y⟨N,e1,hb,hl⟩z=>⟨N,e1,hb.le z,hl.trans z⟩,λ v U'⟨N,e1,hb,hl⟩=>⟨hl.imm,⟨_,(append_nil _).symm⟩,hl.tok⟩,λ U' hC=>?_,λ v hv=>?_⟩
    .have z:=hC
     conv=>whnf
     intro N a0;exact Zi a0 λ U3 bd hb=>⟨U3,.refl _,N,rfl,hb,Qa.le.trans z bd⟩
    obtain⟨_,N,rfl,-⟩:=hv;refine⟨λ v U'=>∃Zn,(∃a' l' c',v=.slice a' l' c')/\Acc 60 2 v (x.flatMap encII++encII e) U'.M (Zn++(Z++w))/\(∀ae B,Acc 60 2 v (x.flatMap encII++encII e) ae (Zn++B)->∃M3:List Qw,M3.Sublist ae/\Acc 60 2 (.slice sa x.length sc) (x.flatMap encII) M3 B)/\L.frz.lg U',λ v L Y⟨Zn,hs,h1,h2,h3⟩z=>⟨Zn,hs,by rw[z.own];exact h1,h2,h3.trans z.lg⟩,λ v U'⟨Zn,hs,h1,h2,h3⟩=>h3,λ U' hC=>?_,λ v hv=>?_⟩
    .obtain⟨b33',e33,hb33,z⟩:=hC;cases e33
     conv=>whnf
     refine Dc (v:=.slice sa x.length sc) (cs:=x.flatMap encII) (new:=encII e) (M₀:=Z++w) VF rfl rfl (by rw[z.own];exact F) (.inr ⟨_,rfl,hb33.rd⟩) rfl (by simp[encII,Value.single]) (by rw[bf];simp[encII];omega) (by simp[encII]) λ v' M' Zn h1 h2=>?_;refine⟨_,.refl _,Zn,?_,h1,h2,⟨z.imm,⟨_,(append_nil _).symm⟩,z.tok⟩⟩;obtain⟨ta,tl,tc,e1,-⟩:=Acc.src (U:={ U' with M:=M' }) h1;exact⟨ta,tl,tc,e1⟩
    obtain⟨_,Zn,⟨va,vl,vc,rfl⟩,-⟩:=hv
    conv=>whnf
    rintro U'⟨bb,-,h1,h2,h3⟩;exact⟨rfl,_,bb,T1,h1,h2,h3⟩
   rintro f' aw Y⟨rfl,al,Zn,a1,ag,a6,aj⟩;rw[<- a1.ovr];clear a1;obtain⟨va,vl,vc,rfl,-⟩:=ag.src;have K:U.frz.lg Y.frz:=ai.trans aj.frz2;have ba:(x++[e]).flatMap encII=x.flatMap encII++encII e:=by rw[flatMap_append];simp
   have W:=ih (x++[e]) (i+1) jj (.slice va vl vc) Y (Zn++Z) w (by rw[length_append];simp;omega) O1 (h0.trans K) (ab.lg K) (by rw[ba,append_assoc];exact ag) (λ t q hq=>by
    have:=V t (e::q) (by
     rw[getElem?_append_left (by rw[length_map];exact(List.getElem?_eq_some_iff.1 hq).1),getElem?_map,hq];rfl)
    rw[this];simp) (a8 jj ⟨L.I,w,L.tok⟩ ⟨Y.I,w,Y.tok⟩ ⟨aj.imm,rfl,aj.tok⟩ hI)
   have W:=W.post (R':=λ v U'=>(v=.bool false/\Y.frz.lg U'.frz/\∃G,Acc 60 2 (.slice sa x.length sc) (x.flatMap encII) U'.M (Z++G)/\I (jj+(TM.parts (l.drop (i+1)) m).length) ⟨U'.I,G,U'.tok⟩)\/(v=.bool true/\∃X' w,U'.M=X'++w/\E ⟨U'.I,w,U'.tok⟩/\∀x o,Y.I x=some o->U'.I x=some o)) λ v U' hv=>by
    rcases hv with⟨rfl,hl,G,ha,ap⟩|h
    .rw[ba,append_assoc]at ha;obtain⟨M3,a9,be⟩:=a6 _ _ ha;exact⟨_,Zz a9,.inl ⟨rfl,hl,G,be,ap⟩⟩
    .exact⟨U',.refl _,.inr h⟩
   refine⟨VA.any,W.mono ?_⟩;rintro v U3 (⟨rfl,hl,G,ha,ap⟩|⟨rfl,X',G,bc,hE,ah⟩) -
   .conv=>whnf
    intro a' H;refine⟨by rw[H.size,Q.size],_,H.get,?_⟩;rw[H.ds];clear H Q;refine⟨a3,rfl,(i+1,jj+(TM.parts (l.drop (i+1)) m).length),T1,⟨K.trans hl,by show i+1<=l.length;omega,⟨G,ha,ap⟩,λ t q hq=>?_,by show jj+(TM.parts (l.drop (i+1)) m).length+(TM.parts (l.drop (i+1)) (m+1)).length=_;omega⟩,L1⟩;show ps[jj+(TM.parts (l.drop (i+1)) m).length+t]?=_;rw[Nat.add_assoc];refine V _ q ?_;rw[getElem?_append_right (by rw[length_map];omega),length_map,Nat.add_sub_cancel_left];exact hq
   .conv=>whnf
    intro a' H;refine⟨by rw[H.size,Q.size],_,H.get,?_⟩;rw[H.ds];clear H Q
    repeat apply R1
    conv=>whnf
    exact .inr ⟨rfl,X',G,bc,hE,λ x o hx=>ah x o (K.imm x o hx)⟩
  .have hge:l.length<=i:=by simpa using hc
   rw[Il hge,length_nil,Nat.add_zero]at P
   repeat apply R1
   conv=>whnf
   exact .inl ⟨rfl,ai,w,F,by rw[<- P];exact hI⟩
def qR(l:List Int)(hl:l.length<=1000)(ak:Nat)(hm:ak<=1000)(g:FuncId)(first an:Array Value)(hg:(prog.funcs[g]?.any λ fd=>fd.body.isSome&&fd.name != "runtime.NumGoroutine")=true){bt bl bn:Nat}{ps:List (List Int)}
  (a8:∀k L Y,L.le Y->I k L->I k Y) (bk:Gp S g first an Zx 1 ps I E U₀) :
  ∀(m:Nat)(x:List Int)(i j:Nat)(xv:Value)(U:Qa T)(Z Mc:List Qw),x.length+m=ak->i<=l.length->U₀.frz.lg U.frz->GF U l ak g first an r bt bl bn->Acc 3 1 xv (x.flatMap Zx) U.M (Z++Mc)->(∀(i':Nat)q,(TM.parts (l.drop i) m)[i']?=some q->ps[j+i']?=some (x++q))->I j ⟨U.I,Mc,U.tok⟩ ->
   Qb S 139 #[xv,.int .i64 i,.pb r,.pb bt,.pb bl,.pb bn]
    (λ v U'=>(v=.bool false/\U.frz.lg U'.frz/\∃w,Acc 3 1 xv (x.flatMap Zx) U'.M (Z++w)/\I (j+(TM.parts (l.drop i) m).length) ⟨U'.I,w,U'.tok⟩)\/(v=.bool true/\∃X' w,U'.M=X'++w/\E ⟨U'.I,w,U'.tok⟩/\∀x o,U.I x=some o->U'.I x=some o)) U:=by
 intro m
 induction m with
 |zero=>
  intro x i j xv U Z Mc bo hi h0 ab F V hI;obtain⟨sa,sl,sc,rfl,au,a7⟩:=F.src;have av:x.length=sl:=by have e:=(Qz (f:=Zx) (n:=1) (λ _=>rfl) x).symm.trans au;omega
  subst av
  obtain⟨A,hA⟩:∃A,U.M=A++(Z++Mc):=by
   rcases F with⟨_,_,hM⟩|⟨b,c,len,cap,_,_,_,_,hM,_⟩
   .exact⟨[],hM⟩
   .exact⟨[_],hM⟩
  refine Qb.of (args:=[_,_,_,_,_,_]) VB Qf S1 ?_;refine⟨_,ab.m.sees3 (o:=0) rfl,?_⟩
  repeat apply R1
  conv=>whnf
  apply Qg<;>intro hc
  .refine⟨_,ab.t.sees3 (o:=0) rfl,λ v U'=>∃a' am,v=.slice a' x.length am/\Q8 U'.frz a' x.length 1 x (λ x vs=>vs=Zx x)/\(∀ad,a'=some ad->ad.spot=none)/\x.length<=am,λ v L Y⟨a',c',e,h,s⟩z=>⟨a',c',e,h.lg z.lg.frz2 λ _ _ h=>h,s⟩,λ U' z hC=>?_,λ v hv=>?_⟩
   .refine⟨Pb.any,(Mk sa sc x (Src.lg' a7 z.lg) O1).mono ?_⟩;rintro v U''⟨hv,a4⟩-;exact⟨U'',.refl _,hv,a4⟩
   obtain⟨_,-,-,a',c',rfl,-⟩:=hv
   conv=>whnf
   intro L aa hC;obtain⟨-,a2,c2,e2,hr,hs⟩:=hC;cases e2;have a5:ps[j]?=some x:=by have:=V 0 [] (by rw[GZ];rfl);simpa using this
   have ay:L.M=(A++Z)++Mc:=by rw[aa.own,hA,append_assoc]
   refine⟨hg,(bk j x a' c' L (A++Z) Mc a5 (h0.trans aa.lg.frz2) hr hs ay (a8 j ⟨U.I,Mc,U.tok⟩ ⟨L.I,Mc,L.tok⟩ ⟨aa.imm,rfl,aa.tok⟩ hI)).mono ?_⟩;rintro v Y (⟨rfl,ai,w,X,ax⟩|⟨rfl,X',w,X,hE,ah⟩) -
   .repeat apply R1
    conv=>whnf
    refine .inl ⟨rfl,aa.lg.frz2.trans ai,w,?_,by rw[GZ];exact ax⟩;rcases F with⟨e1,g2,hM⟩|⟨b,c,len,cap,e1,g1,g2,g3,hM,g5⟩
    .refine .inl ⟨e1,g2,?_⟩
     have:A=[]:=by
      rw[hM]at hA;exact self_eq_append_left.1 hA
     rw[X,this];rfl
    .refine .inr ⟨b,c,len,cap,e1,g1,g2,g3,?_,g5⟩
     have:A=[.obj b (.cells c 3 (0,0))]:=by
      rw[hM]at hA;exact(append_cancel_right (show[Qw.obj b (.cells c 3 (0,0))]++(Z++Mc)=A++(Z++Mc) from hA)).symm
     rw[X,this,append_assoc];rfl
   .repeat apply R1
    conv=>whnf
    exact .inr ⟨rfl,X',w,X,hE,λ x o hx=>ah x o (aa.imm x o hx)⟩
  .simp at hc;omega
 |succ m ih=>
  intro x i j xv U Z Mc bo hi h0 ab F V hI;obtain⟨sa,sl,sc,rfl,au,-⟩:=F.src;have av:x.length=sl:=by have e:=(Qz (f:=Zx) (n:=1) (λ _=>rfl) x).symm.trans au;omega
  subst av;have bf:(x.flatMap Zx).length=x.length*1:=Qz (f:=Zx) (λ _=>rfl) x;refine Qb.of (args:=[_,_,_,_,_,_]) VB Qf S1 ?_;refine⟨_,ab.m.sees3 (o:=0) rfl,?_⟩
  repeat apply R1
  conv=>whnf
  apply Qg<;>intro hc
  .simp at hc;omega
  clear hc
  refine⟨Nat×Nat,λ y=>[(0,.slice sa x.length sc),(2,.pb r),(3,.pb bt),(4,.pb bl),(5,.pb bn),(9,.int .i64 y.1)],
   λ y U'=>U.frz.lg U'.frz/\y.1<=l.length/\(∃w,Acc 3 1 (.slice sa x.length sc) (x.flatMap Zx) U'.M (Z++w)/\I y.2 ⟨U'.I,w,U'.tok⟩)/\(∀(i':Nat)q,(TM.parts (l.drop y.1) (m+1))[i']?=some q->ps[y.2+i']?=some (x++q))/\y.2+(TM.parts (l.drop y.1) (m+1)).length=j+(TM.parts (l.drop i) (m+1)).length,
   λ y=>l.length-y.1,(i,j),T1,⟨⟨λ _ _ h=>h,⟨[],rfl⟩,rfl⟩,hi,⟨Mc,F,hI⟩,V,rfl⟩,?_⟩
  rintro⟨i,jj⟩f L⟨ai,hi,⟨w,F,hI⟩,V,P⟩;simp only at hi V P hI;have ao:=ab.lg ai;obtain⟨la,lc,az,aq⟩:=ao.l;have a3:Ja ((i:Int)+1):=I1
  refine⟨_,az.sees3 (o:=0) rfl,?_⟩
  repeat apply R1
  conv=>whnf
  apply Qg<;>intro hc
  .have hlt:i<l.length:=by simpa using hc
   obtain⟨ad,e,vs,hx,rfl,bp,rfl,-,bj⟩:=Q8.at aq hlt;have bi:=D9 (m:=m) hx;rw[bi]at V P;rw[length_append,length_map]at P;have bh:Zj L.frz bn _:=ao.n.imI λ _ _ h=>h;have bg:Zj L.frz bl _:=az.imI λ _ _ h=>h
   conv=>whnf
   intro ac Q
   refine Sf (mu:=[1006]) (ops:=GO Tryz.f139 6) (id:=6) Q [7,8] [[0,1,2,3,4,5,6,9,10,7,8]] [11] DO zl Qf K1 K1 K1 K1 K1
    (λ f' aw U'=>aw=[]/\∃(al:Value)(Zn:List Qw),Xr f' [(0,.slice sa x.length sc),(2,.pb r),(3,.pb bt),(4,.pb bl),(5,.pb bn),(9,.int .i64 i),(26,.func (.func 139) #[] #[.pb r,.pb bt,.pb bl,.pb bn]),(34,al),(36,.int .i64 ((i:Int)+1))]/\Acc 3 1 al (x.flatMap Zx++Zx e) U'.M (Zn++(Z++w))/\(∀ae B,Acc 3 1 al (x.flatMap Zx++Zx e) ae (Zn++B)->∃M3:List Qw,M3.Sublist ae/\Acc 3 1 (.slice sa x.length sc) (x.flatMap Zx) M3 B)/\L.frz.lg U') ?_ ?_
   .intro l' hl';simp only[DO,mem_cons,not_mem_nil,or_false]at hl';subst hl';refine⟨_,bh.sees3 (o:=0) rfl,_,bg.sees3 (o:=0) rfl,ad,i,⟨rfl,rfl,hlt⟩,_,bj 0 _ rfl,a3,λ v U'=>∃N,v=.slice (some ⟨N,0,none⟩) 1 1/\Zj U' N (Zx e).toArray/\L.le U',λ v L Y⟨N,e1,hb,hl⟩z=>⟨N,e1,hb.le z,hl.trans z⟩,λ v U'⟨N,e1,hb,hl⟩=>⟨hl.imm,⟨_,(append_nil _).symm⟩,hl.tok⟩,λ U' hC=>?_,λ v hv=>?_⟩
    .have z:=hC
     conv=>whnf
     intro N a0;exact Zi a0 λ U3 bd hb=>⟨U3,.refl _,N,rfl,hb,Qa.le.trans z bd⟩
    obtain⟨_,N,rfl,-⟩:=hv;refine⟨λ v U'=>∃Zn,(∃a' l' c',v=.slice a' l' c')/\Acc 3 1 v (x.flatMap Zx++Zx e) U'.M (Zn++(Z++w))/\(∀ae B,Acc 3 1 v (x.flatMap Zx++Zx e) ae (Zn++B)->∃M3:List Qw,M3.Sublist ae/\Acc 3 1 (.slice sa x.length sc) (x.flatMap Zx) M3 B)/\L.frz.lg U',λ v L Y⟨Zn,hs,h1,h2,h3⟩z=>⟨Zn,hs,by rw[z.own];exact h1,h2,h3.trans z.lg⟩,λ v U'⟨Zn,hs,h1,h2,h3⟩=>h3,λ U' hC=>?_,λ v hv=>?_⟩
    .obtain⟨b33',e33,hb33,z⟩:=hC;cases e33
     conv=>whnf
     refine Dc (v:=.slice sa x.length sc) (cs:=x.flatMap Zx) (new:=Zx e) (M₀:=Z++w) H0 rfl rfl (by rw[z.own];exact F) (.inr ⟨_,rfl,hb33.rd⟩) rfl (by simp[Zx,Value.single]) (by rw[bf];simp[Zx];omega) (by simp[Zx]) λ v' M' Zn h1 h2=>?_;refine⟨_,.refl _,Zn,?_,h1,h2,⟨z.imm,⟨_,(append_nil _).symm⟩,z.tok⟩⟩;obtain⟨ta,tl,tc,e1,-⟩:=Acc.src (U:={ U' with M:=M' }) h1;exact⟨ta,tl,tc,e1⟩
    obtain⟨_,Zn,⟨va,vl,vc,rfl⟩,-⟩:=hv
    conv=>whnf
    rintro U'⟨bb,-,h1,h2,h3⟩;exact⟨rfl,_,bb,T1,h1,h2,h3⟩
   rintro f' aw Y⟨rfl,al,Zn,a1,ag,a6,aj⟩;rw[<- a1.ovr];clear a1;obtain⟨va,vl,vc,rfl,-⟩:=ag.src;have K:U.frz.lg Y.frz:=ai.trans aj.frz2;have ba:(x++[e]).flatMap Zx=x.flatMap Zx++Zx e:=by rw[flatMap_append];simp
   have W:=ih (x++[e]) (i+1) jj (.slice va vl vc) Y (Zn++Z) w (by rw[length_append];simp;omega) O1 (h0.trans K) (ab.lg K) (by rw[ba,append_assoc];exact ag) (λ t q hq=>by
    have:=V t (e::q) (by
     rw[getElem?_append_left (by rw[length_map];exact(List.getElem?_eq_some_iff.1 hq).1),getElem?_map,hq];rfl)
    rw[this];simp) (a8 jj ⟨L.I,w,L.tok⟩ ⟨Y.I,w,Y.tok⟩ ⟨aj.imm,rfl,aj.tok⟩ hI)
   have W:=W.post (R':=λ v U'=>(v=.bool false/\Y.frz.lg U'.frz/\∃G,Acc 3 1 (.slice sa x.length sc) (x.flatMap Zx) U'.M (Z++G)/\I (jj+(TM.parts (l.drop (i+1)) m).length) ⟨U'.I,G,U'.tok⟩)\/(v=.bool true/\∃X' w,U'.M=X'++w/\E ⟨U'.I,w,U'.tok⟩/\∀x o,Y.I x=some o->U'.I x=some o)) λ v U' hv=>by
    rcases hv with⟨rfl,hl,G,ha,ap⟩|h
    .rw[ba,append_assoc]at ha;obtain⟨M3,a9,be⟩:=a6 _ _ ha;exact⟨_,Zz a9,.inl ⟨rfl,hl,G,be,ap⟩⟩
    .exact⟨U',.refl _,.inr h⟩
   refine⟨VB.any,W.mono ?_⟩;rintro v U3 (⟨rfl,hl,G,ha,ap⟩|⟨rfl,X',G,bc,hE,ah⟩) -
   .conv=>whnf
    intro a' H;refine⟨by rw[H.size,Q.size],_,H.get,?_⟩;rw[H.ds];clear H Q;refine⟨a3,rfl,(i+1,jj+(TM.parts (l.drop (i+1)) m).length),T1,⟨K.trans hl,by show i+1<=l.length;omega,⟨G,ha,ap⟩,λ t q hq=>?_,by show jj+(TM.parts (l.drop (i+1)) m).length+(TM.parts (l.drop (i+1)) (m+1)).length=_;omega⟩,L1⟩;show ps[jj+(TM.parts (l.drop (i+1)) m).length+t]?=_;rw[Nat.add_assoc];refine V _ q ?_;rw[getElem?_append_right (by rw[length_map];omega),length_map,Nat.add_sub_cancel_left];exact hq
   .conv=>whnf
    intro a' H;refine⟨by rw[H.size,Q.size],_,H.get,?_⟩;rw[H.ds];clear H Q
    repeat apply R1
    conv=>whnf
    exact .inr ⟨rfl,X',G,bc,hE,λ x o hx=>ah x o (K.imm x o hx)⟩
  .have hge:l.length<=i:=by simpa using hc
   rw[Il hge,length_nil,Nat.add_zero]at P
   repeat apply R1
   conv=>whnf
   exact .inl ⟨rfl,ai,w,F,by rw[<- P];exact hI⟩
