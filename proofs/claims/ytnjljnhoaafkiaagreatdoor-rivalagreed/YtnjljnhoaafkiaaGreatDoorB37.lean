/- Lemmas. No conditions. -/
import Derived.Test.YtnjljnhoaafkiaaGreatDoorB36
import Derived.Test.YtnjljnhoaafkiaaGreatDoorB03
set_option linter.all false
set_option maxRecDepth 100000
set_option maxHeartbeats 2000000
open List
open Go.Proofs.Tryz (prog)
namespace Go.TM
open Go.Proofs
attribute [local irreducible] Qb Zm Wo
variable{b:Bk}{k i e n r:Nat}{o:List Nat}{T κ:Type}{U:Qa T}{c args:Array Value}{t:TypeId}{M' M A M₀:List Qw}{Q:Qa T->Prop}{z:Value}{cs rest:List Value}{P:Program}{d:Sys P T}{f:FuncId}{l' V:List Int}{s:Nat->Bool}{l:List (κ×Nat)}{p:κ×Value}{q:κ->Bool}{seen:Array Nat}{H:κ×Nat}
def Bk.ords_le(b:Bk)(h:b.cs.length<=5):∀(k:Nat)(o:List Nat),(b.ords k o).length<=5^k:=by
 intro k
 induction k with
 |zero=>intro o;simp[Bk.ords]
 |succ k f=>
  intro o
  have key:∀m,(b.ordsTo k o m).length<=m*5^k:=by
   intro m
   induction m with
   |zero=>simp[Bk.ordsTo]
   |succ m w=>
    rw[b.ordsTo_succ,length_append,Nat.succ_mul]
    have:(if b.can o m then b.ords k (o++[m])else[]).length<=5^k:=by
     split
     .exact f _
     .exact Nat.zero_le _
    omega
  have h1:=key b.cs.length;have h2:b.cs.length*5^k<=5*5^k:=Nat.mul_le_mul_right _ h;rw[Nat.pow_succ,Nat.mul_comm];exact Nat.le_trans h1 h2
def Bk.all_le(b:Bk)(h:b.cs.length<=5):b.all.length<=3125:=
 Nat.le_trans (b.ords_le h _ _) (Nat.le_trans (Nat.pow_le_pow_right O1 h) D1)
def Bk.wc(b:Bk)(k i:Nat):Nat:=(b.all.take k).countP λ o=>(b.ends o).2.getD i false
def Bk.wc_succ(h:b.all[k]?=some o)(i:Nat):b.wc (k+1) i=b.wc k i+if(b.ends o).2.getD i false then 1 else 0:=by
 unfold Bk.wc;rw[Wf h,countP_append];simp[countP_cons]
def Bk.wc_le(b:Bk)(k i:Nat):b.wc k i<=b.all.length:=Nat.le_trans countP_le_length (by rw[length_take];omega)
def Bk.sc(b:Bk)(k:Nat):List (WQ×Nat):=XD ((b.all.take k).map λ o=>six (W0 (b.ends o).1))
def Bk.sc_succ(h:b.all[k]?=some o):b.sc (k+1)=WF (six (W0 (b.ends o).1)) (b.sc k):=by
 unfold Bk.sc;rw[Wf h,map_append,map_singleton,In]
def Bk.sc_facts(b:Bk)(k:Nat):(b.sc k).length<=b.all.length/\(∀p∈b.sc k,p.2<=b.all.length)/\∀q:WQ->Bool,XF q (b.sc k)=(b.all.take k).countP λ o=>q (six (W0 (b.ends o).1)):=by
 obtain⟨h1,h2,f⟩:=BL _ ((b.all.take k).map λ o=>six (W0 (b.ends o).1)) rfl;have hl:((b.all.take k).map λ o=>six (W0 (b.ends o).1)).length<=b.all.length:=S3
 exact⟨Nat.le_trans h1 hl,λ p hp=>Nat.le_trans (h2 p hp) hl,λ q=>by unfold Bk.sc;rw[f,countP_map];rfl⟩
def Wb(b:Bk)(k i:Nat):List Value:=(range b.cs.length).map λ j=>.int .i64 (b.wc (if j<i then k+1 else k) j:Nat)
def Gk{j:Nat}(h:j<b.cs.length):(Wb b k i)[j]?=some (.int .i64 (b.wc (if j<i then k+1 else k) j:Nat)):=by
 unfold Wb;rw[getElem?_map,getElem?_range h];rfl
def OE(b:Bk)(k i:Nat):(Wb b k i).length=b.cs.length:=by simp[Wb]
def xf(b:Bk)(k i:Nat)(h:i<b.cs.length):(Wb b k i).toArray.setIfInBounds i (.int .i64 (b.wc (k+1) i:Nat))=(Wb b k (i+1)).toArray:=by
 apply Array.ext';rw[Array.toList_setIfInBounds];apply ext_getElem?;intro j;rw[getElem?_set];by_cases e:i=j
 .subst e;rw[if_pos rfl,if_pos (by simpa[Wb]using h),Gk h,if_pos O1]
 .rw[if_neg e];by_cases f:j<b.cs.length
  .rw[Gk f,Gk f];have:(j<i)=(j<i+1):=propext O1;simp[this]
  .rw[getElem?_eq_none (by rw[OE];omega),getElem?_eq_none (by rw[OE];omega)]
def w_(b:Bk)(k:Nat):Wb b k b.cs.length=Wb b (k+1) 0:=by
 unfold Wb;refine map_congr_left λ j f=>?_;rw[if_pos (mem_range.1 f),if_neg O1]
def jn(b:Bk):Wb b 0 0=replicate b.cs.length (.int .i64 0):=by
 apply ext_getElem?;intro j;by_cases f:j<b.cs.length
 .rw[Gk f,getElem?_replicate,if_pos f,if_neg O1];simp[Bk.wc]
 .rw[getElem?_eq_none (by rw[OE];omega),getElem?_eq_none S3]
def vS(ha:e<2^60)(h:n<60):IntKind.wrap .i64 ((BitVec.ofInt (IntKind.bits .i64) (Int.fdiv (e:Int) (2^(min ((n:Int).toNat) (IntKind.bits .i64))))&&&BitVec.ofInt (IntKind.bits .i64) 1).toNat:Int)=((if e.testBit n then 1 else 0:Nat):Int):=by
 have h1:e>>>n<2^60:=Nat.lt_of_le_of_lt (Nat.shiftRight_le e n) ha;have h2:=Ul h1 (show 1<2^60 by decide);rw[show((1:Nat):Int)=1 from rfl]at h2;have f:Int.fdiv (e:Int) (2^(min ((n:Int).toNat) (IntKind.bits .i64)))=((e>>>n:Nat):Int):=Ur h;have b:=HT ha h;rw[Ur h,h2]at b;rw[f];refine h2.trans ?_;congr 1;rw[Nat.and_one_is_mod]at b ⊢;have:e>>>n % 2<2:=Nat.mod_lt _ O1;cases hb:e.testBit n with
 |true=>
  rw[hb,beq_iff_eq]at b;simp only[if_true];omega
 |false=>
  rw[hb]at b;have:=ne_of_beq_false b;simp only[Bool.false_eq_true,if_false];omega
def jd(hf:U.free n)(hp:M'.Sublist U.M)(h:∀f:Qa T,(∀x o,U.I x=some o->f.I x=some o)->f.tok=U.tok->f.M=M'->Zi f n c->Q f):∃f,Qv (U.put n (.cells c t)) f/\Q f:=
 ⟨_,(Wa (b:=n) (M':=U.M) (Perm.refl _)).trans (Zx (M':=M') hp),h _ (Gv (o:=.cells c t) hf).imm rfl rfl Zi.new⟩
def vW{κ:Type}[DecidableEq κ](k:κ)(z:Value)(l:List (κ×Value)):(lk k (X5 k z l)).getD z=(lk k l).getD z:=by
 unfold X5;split
 .rfl
 .rename_i h;have b:lk k l=none:=by simpa using h
  rw[b]
  have:∀(l:List (κ×Value))(i:Nat),QL k l i=none->((QL k (l++[(k,z)]) i).map (·.2))=some z:=by
   intro l
   induction l with
   |nil=>intro i _;simp[QL]
   |cons p l f=>
    intro i hi;simp only[QL]at hi;split at hi
    .cases hi
    .rename_i e;simp only[cons_append,QL,if_neg e];exact f _ hi
  unfold lk at b ⊢;rw[this l 0 (by simpa using b)];rfl
def IP:∃b,prog.info? 3=some b/\b.zero=some (.int .i64 0)/\b.size=1/\b.bytes=8:=by
 have h1:(prog.info? 3).map (·.zero)=some (some (.int .i64 0)):=K1
 have h2:(prog.info? 3).map (·.size)=some 1:=K1
 have f:(prog.info? 3).map (·.bytes)=some 8:=K1
 cases h:prog.info? 3 with
 |none=>rw[h]at h1;cases h1
 |some b=>
  rw[h]at h1 h2 f;exact⟨b,rfl,Option.some.inj h1,Option.some.inj h2,Option.some.inj f⟩
def Oq:Uy prog 119 6:=.of K1
def Pg:prog.underlying 138=some (.map 119 3):=K1
def V_:WI T prog 119 (λ k:WQ=>.agg (H0 k).toArray):=by
 obtain⟨e,w,h1,h2,b,f,-⟩:=Oq.h;exact WI.arr h1 h2 rfl b f (λ k=>rfl) (λ k=>Ox _) pQ λ k=>by simp[Instr.sameBits,H0,QM]
def Ig:X7 prog 45 53 1:=.of K1
def Acc.letgo(h:Acc e n z cs M (A++M₀)):∃M',M'.Sublist M/\Acc e n z cs M' M₀:=by
 rcases h with⟨h1,h2,f⟩|⟨b,c,len,cap,h1,h2,w,B,f,h5⟩
 .exact⟨M₀,by rw[f];exact sublist_append_right A M₀,.inl ⟨h1,h2,rfl⟩⟩
 .exact⟨_,by rw[f];exact(sublist_append_right A M₀).cons₂ _,.inr ⟨b,c,len,cap,h1,h2,w,B,rfl,h5⟩⟩
def JS.sublist(f:JS U)(h:M'.Sublist U.M):JS { U with M:=M' }:=λ r b=>f r (h.subset b)
def Qb.lists2{e':Nat}(h:Qb d f args (λ v U'=>∃w B A H,v=.tuple (w::B::rest).toArray/\Acc e' 1 B (V.map λ n=>.int .i64 n) U'.M H/\Acc e 1 w (l'.map λ n=>.int .i64 n) H (A++U.M)/\(∀x K,U.I x=some K->U'.I x=some K)/\U'.tok=U.tok) U) :
  Qb d f args (λ v U'=>(∃w B,v=.tuple (w::B::rest).toArray/\Jw U'.frz w l'/\Jw U'.frz B V)/\U.le U') U:=by
 have h1:Qb d f args (λ v U'=>∃w B A,v=.tuple (w::B::rest).toArray/\Jw U'.frz B V/\Acc e 1 w (l'.map λ n=>.int .i64 n) U'.M (A++U.M)/\(∀x K,U.I x=some K->U'.I x=some K)/\U'.tok=U.tok) U:=by
  refine h.sep λ v U' N⟨w,B,A,H,P,h2,h1,L,ht⟩=>?_;obtain⟨U'',Q,E,a,len,cap,rfl,hl,b,G,_⟩:=h2.freeze (U:={ U' with M:=H }) N (λ _ _ h=>h) rfl;simp at hl;exact⟨U'',Q,w,_,A,P,⟨a,cap,by rw[hl],KV b G⟩,by rw[show U''.M=H from E.own];exact h1,λ x o h=>E.imm x o (L x o h),E.tok.trans ht⟩
 refine h1.sep λ v U' N⟨w,B,A,P,h2,h1,L,ht⟩=>?_;obtain⟨M',F,h1⟩:=h1.letgo;obtain⟨U'',Q,E,a,len,cap,rfl,hl,b,G,_⟩:=h1.freeze (U:={ U' with M:=U.M }) (U':={ U' with M:=M' }) (N.sublist F) (λ _ _ h=>h) rfl;simp at hl;have W:U'.frz.lg U''.frz:=⟨E.imm,⟨[],rfl⟩,E.tok⟩;exact⟨U'',(Zx F).trans Q,⟨_,B,P,⟨a,cap,by rw[hl],KV b G⟩,h2.lg W⟩,⟨λ x o h=>E.imm x o (L x o h),E.own,E.tok.trans ht⟩⟩
def Jo(e:TypeId)(n:Nat)(v:Value)(cs:List Value)(A:List Qw):Prop:=∀M₁,Acc e n v cs (A++M₁) M₁
def Acc.split(h:Acc e n z cs M M₀):∃A,M=A++M₀/\Jo e n z cs A:=by
 rcases h with⟨rfl,rfl,rfl⟩|⟨b,c,len,cap,rfl,h1,h2,f,rfl,w⟩
 .exact⟨[],rfl,λ _=>.inl ⟨rfl,rfl,rfl⟩⟩
 .exact⟨[_],rfl,λ _=>.inr ⟨b,c,len,cap,rfl,h1,h2,f,rfl,w⟩⟩
def Jo.nil{e n:Nat}:Jo e n .nl [] []:=λ _=>.nil
def Jo.src(h:Jo e n z cs A):∃a l c,z=.slice a l c/\cs.length=l*n:=by
 rcases h []with⟨rfl,rfl,_⟩|⟨b,c,len,cap,rfl,h1,_⟩
 .exact⟨none,0,0,rfl,S1⟩
 .exact⟨_,_,_,rfl,h1⟩
def Qb.accs(h:Qb d f args (λ v U'=>(∃A Y,U'.M.Perm (Y++(A++U.M))/\Jo e n v cs A)/\(∀x o,U.I x=some o->U'.I x=some o)/\U'.tok=U.tok) U) :
  Qb d f args (λ v U'=>Acc e n v cs U'.M U.M/\(∀x o,U.I x=some o->U'.I x=some o)/\U'.tok=U.tok) U:=
 h.post λ v U'⟨⟨A,Y,w,ha⟩,b,ht⟩=>⟨_,(Wp w).trans (Zx (U:={ U' with M:=Y++(A++U.M) }) (M':=A++U.M) (sublist_append_right ..)),ha U.M,b,ht⟩
def Pb{b:Nat}{o o':Obj}{M M':List Qw}(h:J0 b o' o M M'):∀A:List Qw,J0 b o' o (A++M) (A++M')
 |[]=>h
 |_::A=>.there (Pb h A)
def pR(b:r<6):ZF (QM s) (QM (H1 s r true))=s r:=by
 rw[Bool.eq_iff_iff,Iq];unfold H1;constructor
 .intro h;have:=h r b
  rwa [if_pos rfl]at this
 .intro h j _;by_cases e:j=r
  .rw[if_pos e,e,h]
  .rw[if_neg e]
def vO(h:(QG l)[i]?=some p):∃q,l[i]?=some q/\p=(q.1,.int .i64 (q.2:Nat)):=by
 unfold QG at h;rw[getElem?_map]at h;cases hx:l[i]? with
 |none=>rw[hx]at h;cases h
 |some q=>rw[hx]at h;cases h;exact⟨q,rfl,rfl⟩
def xu(h:l[i]?=some H):Xi q l (seen.push i).toList=Xi q l seen.toList+if q H.1 then H.2 else 0:=by
 unfold Xi;rw[Array.toList_push,map_append,sum_append];simp[h]
abbrev ZE:WQ->Value:=λ k=>.agg (H0 k).toArray
variable{S:Sys prog T}
def E1(h:BH)(b:Bk)(hb:Zr U.frz h b)(cp:b.Ok):Qb S 31 #[h.v] (λ v U'=>(∃v1 v2,v=.tuple #[v1,v2]/\Jw U'.frz v1 b.fatesR/\Jw U'.frz v2 b.fatesC)/\U.le U') U:=by
 refine Qb.lists2 (e:=53) (e':=53) (rest:=[]) (Qb.of (args:=[_]) OO Qf S1 ?_);have dw:=hb.cs.1;have ep:=hb.rs.1;have d6:=cp.nc;have en:=cp.nr;have hN:=b.all_le d6;obtain⟨i3,ef,eg,eh,eu⟩:=IP
 repeat apply R1
 conv=>whnf
 intro B U1 bh hB;have hB:Zi U1 B #[.slice h.ra h.rl h.rc,.slice h.ca h.cl h.cc]:=hB
 conv=>whnf
 refine P3 ZE λ mb d4=>?_
 conv=>whnf
 intro b4 c8;refine⟨_,.refl _,rfl,Zv (vs:=[.map (some mb)]) c8 rfl Zz1 λ U2 ch bj=>?_⟩;have W:U1.lg U2:=(Z2 mb _).trans ch.lg;refine⟨_,(hB.lg W).sees3 (o:=1) rfl,?_⟩
 conv=>whnf
 refine Ee (n:=h.cl) Px ef eg rfl eh O1 rfl rfl O1 λ F ee=>?_
 conv=>whnf
 intro b5 c9;refine⟨_,.refl _,rfl,Zv (vs:=[.slice (some ⟨F,0,none⟩) h.cl h.cl]) c9 rfl Zz1 λ U3 cj bk=>?_⟩;have X:U2.lg U3:=(Z2 F _).trans cj.lg
 conv=>whnf
 intro P dy;refine⟨_,.refl _,rfl,HO (vs:=[.int .i64 0]) rfl Zz1 ?_⟩;have aa:=Z2 (U:=U3) P (.cells #[.int .i64 0] 3);refine⟨_,⟨rfl,(hB.lg (W.trans (X.trans aa))).rd⟩,?_⟩;refine⟨OV.any,(Ea h b ((hb.lg bh.lg.frz2).lg (Qr.trans (W.trans (X.trans aa))))).mono ?_⟩;rintro _ U4⟨⟨B',rfl,cu⟩,az⟩-;have aj:U1.lg U4:=W.trans (X.trans (aa.trans az.lg));have bj:Zi U4 b4 #[.map (some mb)]:=bj.lg (X.trans (aa.trans az.lg));have bk:Zi U4 b5 #[.slice (some ⟨F,0,none⟩) h.cl h.cl]:=bk.lg (aa.trans az.lg)
 have dq:U4.M=.obj P (.cells #[.int .i64 ((0:Nat):Int)] 3 (0,0))::.obj F (.cells (Wb b 0 0).toArray 3 (0,0))::.obj mb (Qt ZE (QG (b.sc 0)))::U.M:=by
  rw[az.own,jn,dw];show _::U3.M=_;rw[cj.own];show _::_::U2.M=_;rw[ch.own];show _::_::_::U1.M=_;rw[bh.own];rfl
 have bz:U.frz.lg U4.frz:=bh.lg.frz2.trans aj.frz2;have ea:U4.tok=U.tok:=aj.tok.trans bh.tok;have bm:∀l N,U4.frz.lg N->Yq S 83 #[.func (.yield l) #[] #[],.pb B'] l b.all.length (GJ b) N:=λ l N hl=>DP h b (hb.lg (bz.trans hl.frz2)) cp (cu.imI hl.imm);clear cu aa X W ee c8 c9 dy d4 ch cj az
 conv=>whnf
 let Inv:Nat->Qa T->Prop:=λ k U'=>U4.frz.lg U'/\U'.M=.obj P (.cells #[.int .i64 (k:Nat)] 3 (0,0))::.obj F (.cells (Wb b k 0).toArray 3 (0,0))::.obj mb (Qt ZE (QG (b.sc k)))::U.M
 refine IB Qf b.all.length (GJ b) Inv (λ _ _=>False) (λ _=>False) rfl rfl Tq.any bm ?_ ?_ ⟨Qr,dq⟩ ?_ ?_ ?_ ?_
 .rintro k p U' ⟨o,v,-,rfl,-⟩;rfl
 .rintro k U' U'' w ⟨hl,hM⟩;exact⟨Uf hl w,w.own.trans hM⟩
 .rintro l A' Bd D k p U₀ KN KX KR KA hk ⟨o,v,ho,rfl,a,cap,rfl,hio,hcap,hsp⟩ ⟨hl,hM⟩ hKN hKX hKR hKA
  conv=>whnf
  intro b7 da;refine⟨_,.refl _,rfl,Zv (vs:=QR (.slice a o.length cap) (W0 (b.ends o).1) (Jz (b.ends o).2)) da rfl (by simp[QR,Value.single]) λ N bi bw=>?_⟩
  conv=>whnf
  have e1:N=({ N with M:=U₀.M }:Qa T).on A' D:=by
   have:=bi.own;obtain⟨i1,m1,t1⟩:=N;simp only[Qa.on]at this ⊢;rw[this]
  rw[e1];refine hKA _ _ ?_;have bg:(({ N with M:=U₀.M }:Qa T).on Bd D).M=[Bd,D]++(.obj P (.cells #[.int .i64 (k:Nat)] 3 (0,0))::.obj F (.cells (Wb b k 0).toArray 3 (0,0))::.obj mb (Qt ZE (QG (b.sc k)))::U.M):=by show Bd::D::U₀.M=_;rw[hM];rfl
  have cf:∀x o,U₀.I x=some o->(({ N with M:=U₀.M }:Qa T).on Bd D).I x=some o:=λ x o h=>bi.imm x o h;have au:Zi (({ N with M:=U₀.M }:Qa T).on Bd D) b7 (QR (.slice a o.length cap) (W0 (b.ends o).1) (Jz (b.ends o).2)).toArray:=bw;have cq:(({ N with M:=U₀.M }:Qa T).on Bd D).tok=U₀.tok:=bi.tok;generalize(({ N with M:=U₀.M }:Qa T).on Bd D)=U6 at bg cf au cq ⊢;clear e1 bi bw da;refine⟨_,Q9 [Bd,D] bg 0 _ rfl,I1,?_⟩;refine⟨rfl,Wd (vs:=[.int .i64 ((k:Int)+1)]) [Bd,D] bg rfl Zz1 λ U7 ay b8 al=>?_⟩;have bf:∀x o,U₀.I x=some o->U7.I x=some o:=λ x o h=>by rw[ay];exact cf x o h
  have au:Zi U7 b7 (QR (.slice a o.length cap) (W0 (b.ends o).1) (Jz (b.ends o).2)).toArray:=au.imI λ x o h=>by rw[ay];exact h
  have br:Zi U7 b4 #[.map (some mb)]:=bj.imI λ x o h=>bf x o (hl.imm x o h);have bs:Zi U7 b5 #[.slice (some ⟨F,0,none⟩) h.cl h.cl]:=bk.imI λ x o h=>bf x o (hl.imm x o h);have dj:U7.tok=U₀.tok:=b8.trans cq;obtain⟨de,an,-⟩:=b.sc_facts k;have dx:JE (six (W0 (b.ends o).1)) (b.sc k)<=3125:=Nat.le_trans (L0 _ _ an) hN;have d0:∀q:WQ,ZE q=.agg (H0 q).toArray:=λ _=>rfl;have af:Value.agg (QM (W0 (b.ends o).1)).toArray=ZE (six (W0 (b.ends o).1)):=by rw[d0,gO]
  have ao:=vD (six (W0 (b.ends o).1)) (.int .i64 0) (.int .i64 ((JE (six (W0 (b.ends o).1)) (b.sc k)+1:Nat):Int)) (QG (b.sc k));rw[Lr,<- b.sc_succ ho]at ao;have a8:Z9 ((JE (six (W0 (b.ends o).1)) (b.sc k):Nat)+1:Int):=I1
  have bd:Je U7.frz ((Addr.mk b7 0 none).add 1) (QM (W0 (b.ends o).1)):=
   ((au.imI (U':=U7.frz) λ _ _ h=>h).reads (vs:=QR (.slice a o.length cap) (W0 (b.ends o).1) (Jz (b.ends o).2)) (λ k v hv=>by simpa using hv)).sub (o:=1) (n:=6)
  have a0:Zi U7.frz b4 #[.map (some mb)]:=br.imI λ _ _ h=>h;generalize hK:six (W0 (b.ends o).1)=ky at dx af ao a8
  let F0:Qa T->Prop:=λ U'=>U7.frz.lg U'/\U'.M=U7.M
  let F1:Qa T->Prop:=λ U'=>U7.frz.lg U'/\U'.M=[Bd,D]++(.obj P (.cells #[.int .i64 ((k:Int)+1)] 3 (0,0))::.obj F (.cells (Wb b k 0).toArray 3 (0,0))::.obj mb (Qt ZE (X5 ky (.int .i64 0) (QG (b.sc k))))::U.M)
  conv=>whnf
  intro ac a6
  refine Sx (mu:=[]) (ops:=GZ Tryz.f31 7) (id:=7) a6 [3,5] [[0,1,2,3,4,5,6],[0,1,2,5,6,3,4]] [7] Qf
   (λ f' ct U'=>ct=[]/\Xx f' [(5,.pb b5),(7,.pb b7),(27,.map (some mb)),(31,.int .i64 ((JE ky (b.sc k):Nat)+1:Int)),(33,.int .i64 (XW ky (QG (b.sc k)):Nat))]/\F1 U') ?_ ?_
  .intro l hl;simp only[mem_cons,not_mem_nil,or_false]at hl;rcases hl with rfl|rfl
   .skip
    refine⟨_,a0.sees3 (o:=0) rfl,_,⟨rfl,bd⟩,λ v U'=>v=.int .i64 (JE ky (b.sc k):Nat)/\F0 U',λ v U1 U2 G w=>⟨G.1,G.2.1.trans w.lg,w.own.trans G.2.2⟩,λ v U' G=>G.2.1,λ U' hC=>?_,λ v hv=>?_⟩
    .have H:U'.M=U7.M:=hC.own;have E:U7.frz.lg U':=⟨hC.imm,Zz3,hC.tok⟩
     conv=>whnf
     refine Ol (k:=ky) (l:=QG (b.sc k)) V_ Pg HL rfl af (.inr (by rw[H,al];simp)) ?_;rw[Yj];exact⟨_,.refl _,rfl,E,H⟩
    obtain⟨_,rfl,-⟩:=hv;refine⟨a8,λ v U'=>v=.tuple #[.int .i64 (JE ky (b.sc k):Nat),.int .i64 (XW ky (QG (b.sc k)):Nat)]/\F1 U',λ v U1 U2 G w=>⟨G.1,G.2.1.trans w.lg,w.own.trans G.2.2⟩,λ v U' G=>G.2.1,λ U' hC=>?_,λ v hv=>?_⟩
    .obtain⟨-,E,H⟩:=hC
     conv=>whnf
     refine Ef (k:=ky) (l:=QG (b.sc k)) (z:=.int .i64 0) (M':=[Bd,D]++(.obj P (.cells #[.int .i64 ((k:Int)+1)] 3 (0,0))::.obj F (.cells (Wb b k 0).toArray 3 (0,0))::.obj mb (Qt ZE (X5 ky (.int .i64 0) (QG (b.sc k))))::U.M)) V_ Pg HL rfl af (by rw[H,al];exact .there (.there (.there (.there .here)))) ?_;rw[Yj];exact⟨_,.refl _,rfl,⟨E.imm,Zz3,E.tok⟩,rfl⟩
    obtain⟨_,rfl,-⟩:=hv
    conv=>whnf
    rintro U'⟨-,G⟩;exact⟨rfl,T1,G⟩
   .skip
    refine⟨_,a0.sees3 (o:=0) rfl,_,⟨rfl,bd⟩,λ v U'=>v=.tuple #[.int .i64 (JE ky (b.sc k):Nat),.int .i64 (XW ky (QG (b.sc k)):Nat)]/\F1 U',λ v U1 U2 G w=>⟨G.1,G.2.1.trans w.lg,w.own.trans G.2.2⟩,λ v U' G=>G.2.1,λ U' hC=>?_,λ v hv=>?_⟩
    .have H:U'.M=U7.M:=hC.own;have E:U7.frz.lg U':=⟨hC.imm,Zz3,hC.tok⟩
     conv=>whnf
     refine Ef (k:=ky) (l:=QG (b.sc k)) (z:=.int .i64 0) (M':=[Bd,D]++(.obj P (.cells #[.int .i64 ((k:Int)+1)] 3 (0,0))::.obj F (.cells (Wb b k 0).toArray 3 (0,0))::.obj mb (Qt ZE (X5 ky (.int .i64 0) (QG (b.sc k))))::U.M)) V_ Pg HL rfl af (by rw[H,al];exact .there (.there (.there (.there .here)))) ?_;rw[Yj];exact⟨_,.refl _,rfl,⟨E.imm,Zz3,E.tok⟩,rfl⟩
    obtain⟨_,rfl,-⟩:=hv;refine⟨λ v U'=>v=.int .i64 (JE ky (b.sc k):Nat)/\F1 U',λ v U1 U2 G w=>⟨G.1,G.2.1.trans w.lg,w.own.trans G.2.2⟩,λ v U' G=>G.2.1,λ U' hC=>?_,λ v hv=>?_⟩
    .obtain⟨-,E,H⟩:=hC
     conv=>whnf
     refine Ol (k:=ky) (l:=X5 ky (.int .i64 0) (QG (b.sc k))) V_ Pg HL rfl af (.inr (by rw[H];simp)) ?_;rw[vW,Yj];exact⟨_,.refl _,rfl,E,H⟩
    obtain⟨_,rfl,-⟩:=hv;refine⟨a8,?_⟩
    conv=>whnf
    rintro U'⟨-,G⟩;exact⟨rfl,T1,G⟩
  rintro f' ct U8⟨rfl,db,Y,bp⟩;rw[<- db.ovr];clear db;have dr:List Qw:=[Bd,D]++(.obj P (.cells #[.int .i64 ((k:Int)+1)] 3 (0,0))::.obj F (.cells (Wb b k 0).toArray 3 (0,0))::.obj mb (Qt ZE (QG (b.sc (k+1))))::U.M)
  conv=>whnf
  refine zc (n:=XW ky (QG (b.sc k))) (l:=X5 ky (.int .i64 0) (QG (b.sc k))) (v:=.int .i64 ((JE ky (b.sc k)+1:Nat):Int)) (M':=[Bd,D]++(.obj P (.cells #[.int .i64 ((k:Int)+1)] 3 (0,0))::.obj F (.cells (Wb b k 0).toArray 3 (0,0))::.obj mb (Qt ZE (QG (b.sc (k+1))))::U.M)) rfl rfl ao.2 rfl (by rw[bp,ao.1];exact .there (.there (.there (.there .here)))) ?_
  conv=>whnf
  intro a' bl;refine⟨by rw[bl.size,a6.size],_,bl.get,?_⟩;rw[bl.ds];clear bl a6;have bv:=au.imI Y.imm;have bt:=bs.imI Y.imm;have bo:∀x o,U₀.I x=some o->U8.I x=some o:=λ x o h=>Y.imm x o (bf x o h);have b9:U8.tok=U₀.tok:=Y.tok.trans dj;generalize aq:({ U8 with M:=[Bd,D]++(.obj P (.cells #[.int .i64 ((k:Int)+1)] 3 (0,0))::.obj F (.cells (Wb b k 0).toArray 3 (0,0))::.obj mb (Qt ZE (QG (b.sc (k+1))))::U.M) }:Qa T)=U9;have cx:U9.M=[Bd,D]++(.obj P (.cells #[.int .i64 ((k:Int)+1)] 3 (0,0))::.obj F (.cells (Wb b k 0).toArray 3 (0,0))::.obj mb (Qt ZE (QG (b.sc (k+1))))::U.M):=by rw[<- aq]
  have cw:∀x o,U₀.I x=some o->U9.I x=some o:=by rw[<- aq];exact bo
  have c5:Zi U9 b7 (QR (.slice a o.length cap) (W0 (b.ends o).1) (Jz (b.ends o).2)).toArray:=by rw[<- aq];exact bv
  have bu:Zi U9 b5 #[.slice (some ⟨F,0,none⟩) h.cl h.cl]:=by rw[<- aq];exact bt
  have di:U9.tok=U₀.tok:=by rw[<- aq];exact b9
  clear aq dr bp Y bv bt bo b9 a0 bd br bs au al ay bf b8 dj bg cf cq F0 F1;have d3:=b.ends_len o;have ed:Jz (b.ends o).2<2^5:=SZ _ O1;have dk:Jz (b.ends o).2<2^60:=Nat.lt_trans ed D1;refine⟨_,bu.sees3 (o:=0) rfl,Nat,λ i=>[(5,.pb b5),(7,.pb b7),(35,.int .i64 h.cl),(36,.int .i64 i)],
   λ i U'=>U9.frz.lg U'/\U'.M=[Bd,D]++(.obj P (.cells #[.int .i64 ((k:Int)+1)] 3 (0,0))::.obj F (.cells (Wb b k i).toArray 3 (0,0))::.obj mb (Qt ZE (QG (b.sc (k+1))))::U.M)/\i<=h.cl,λ i=>h.cl-i,0,T1,⟨Qr,cx,O1⟩,?_⟩
  rintro i f Ua⟨V,ab,hi⟩;have a7:Z9 ((i:Int)+1):=I1
  repeat apply R1
  conv=>whnf
  apply Qg<;>intro hc
  .have av:i<h.cl:=by simpa using hc
   have et:=b.wc_le k i;have ag:=Gk (b:=b) (k:=k) (i:=i) (j:=i) O1;rw[if_neg O1]at ag
   have cr:Ua.sees ((Addr.mk F 0 none).add (i*1)) (.int .i64 (b.wc k i:Nat)):=by
    rw[Nat.mul_one];exact Q9 [Bd,D,_] ab i _ ag
   have ck:=vS dk (show i<60 by omega);rw[PJ]at ck
   have dc:Z9 ((b.wc k i:Nat)+IntKind.wrap .i64 ((BitVec.ofInt (IntKind.bits .i64) (Int.fdiv (Jz (b.ends o).2:Int) (2^(min ((i:Int).toNat) (IntKind.bits .i64))))&&&BitVec.ofInt (IntKind.bits .i64) 1).toNat:Int)):=by
    rw[ck];unfold Z9;split <;> omega
   have e2:((b.wc k i:Nat):Int)+IntKind.wrap .i64 ((BitVec.ofInt (IntKind.bits .i64) (Int.fdiv (Jz (b.ends o).2:Int) (2^(min ((i:Int).toNat) (IntKind.bits .i64))))&&&BitVec.ofInt (IntKind.bits .i64) 1).toNat:Int)=((b.wc (k+1) i:Nat):Int):=by
    rw[ck,b.wc_succ ho i];simp
   refine⟨_,(bu.imI V.imm).sees3 (o:=0) rfl,⟨F,0,none⟩,i,⟨rfl,rfl,av⟩,_,cr,_,(c5.imI V.imm).sees3 (o:=7) rfl,O1,rfl,?_⟩
   conv=>whnf
   intro Ub L _;have Q:=L.own.trans ab;refine⟨dc,?_⟩;rw[e2];refine⟨⟨F,0,none⟩,i,⟨rfl,rfl,av⟩,rfl,?_⟩;rw[Nat.mul_one];refine WN (i:=i) (v:=.int .i64 (b.wc (k+1) i:Nat)) [Bd,D,_] Q (by simp[Wb];omega) rfl λ Uc dm eb ap=>?_;rw[xf b k i O1]at ap;have d2:U9.frz.lg Uc:=⟨λ x o h=>by rw[dm];exact L.imm x o (V.imm x o h),Zz3,eb.trans (L.tok.trans V.tok)⟩;refine⟨a7,?_⟩
   conv=>whnf
   exact⟨rfl,i+1,T1,⟨d2,ap,O1⟩,L1⟩
  .have hge:i=b.cs.length:=by simp at hc;omega
   subst hge;rw[w_]at ab
   have e3:Ua=({ Ua with M:=.obj P (.cells #[.int .i64 ((k:Int)+1)] 3 (0,0))::.obj F (.cells (Wb b (k+1) 0).toArray 3 (0,0))::.obj mb (Qt ZE (QG (b.sc (k+1))))::U.M }:Qa T).on Bd D:=by
    obtain⟨i1,m1,t1⟩:=Ua;simp only[Qa.on]at ab ⊢;rw[ab];rfl
   have dd:U₀.frz.lg ({ Ua with M:=.obj P (.cells #[.int .i64 ((k:Int)+1)] 3 (0,0))::.obj F (.cells (Wb b (k+1) 0).toArray 3 (0,0))::.obj mb (Qt ZE (QG (b.sc (k+1))))::U.M }:Qa T):=⟨λ x o h=>V.imm x o (cw x o h),Zz3,V.tok.trans di⟩;have d1:=hl.frz2.trans dd
   conv=>whnf
   rw[e3];exact hKN _ _ _ dd ⟨d1,rfl⟩
 .rintro d l OA U3' ⟨hl,hM⟩;have cg:(U3'.on (.obj l OA) (.obj d (.deferred (some [])))).M=[.obj l OA,.obj d (.deferred (some []))]++(.obj P (.cells #[.int .i64 (b.all.length:Nat)] 3 (0,0))::.obj F (.cells (Wb b b.all.length 0).toArray 3 (0,0))::.obj mb (Qt ZE (QG (b.sc b.all.length)))::U.M):=by show _::_::U3'.M=_;rw[hM];rfl
  have ax:∀x o,U4.I x=some o->(U3'.on (.obj l OA) (.obj d (.deferred (some [])))).I x=some o:=hl.imm;have dg:(U3'.on (.obj l OA) (.obj d (.deferred (some [])))).tok=U4.tok:=hl.tok;generalize(U3'.on (.obj l OA) (.obj d (.deferred (some []))))=N at cg ax dg ⊢;have dl:Zi N B #[.slice h.ra h.rl h.rc,.slice h.ca h.cl h.cc]:=hB.imI λ x o h=>ax x o (aj.imm x o h);have c3:Zi N b4 #[.map (some mb)]:=bj.imI ax;have c4:Zi N b5 #[.slice (some ⟨F,0,none⟩) h.cl h.cl]:=bk.imI ax;have cv:∀x o,U.I x=some o->N.I x=some o:=λ x o h=>ax x o (bz.imm x o h);have dh:N.tok=U.tok:=dg.trans ea;obtain⟨de,an,b3⟩:=b.sc_facts b.all.length;rw[take_length]at b3;generalize aw:[.obj l OA,.obj d (.deferred (some []))]++(.obj P (.cells #[.int .i64 (b.all.length:Nat)] 3 (0,0))::.obj F (.cells (Wb b b.all.length 0).toArray 3 (0,0))::.obj mb (Qt ZE (QG (b.sc b.all.length)))::U.M)=Ba at cg;have bb:Qw.obj mb (Qt ZE (QG (b.sc b.all.length)))∈Ba:=by rw[<- aw];simp
  clear hl hM bm Inv;refine⟨_,dl.sees3 (o:=0) rfl,Nat×Value,λ y=>[(2,y.2),(3,.nl),(4,.pb b4),(5,.pb b5),(6,.pb P),(54,.int .i64 h.rl),(55,.int .i64 y.1)],
   λ y U'=>N.frz.lg U'/\(∃A,U'.M=A++Ba/\Jo 53 1 y.2 (((range y.1).map b.fatR).map λ n=>.int .i64 n) A)/\y.1<=h.rl,λ y=>h.rl-y.1,(0,.nl),T1,⟨Qr,⟨[],cg,.nil⟩,O1⟩,?_⟩
  rintro⟨r,v⟩f Ua⟨V,⟨A,ab,Z⟩,hr⟩;simp only at Z hr;obtain⟨sa,sl,sc,rfl,er⟩:=Z.src;have a7:Z9 ((r:Int)+1):=I1
  repeat apply R1
  conv=>whnf
  apply Qg<;>intro hc
  .have hrt:r<h.rl:=by simpa using hc
   have ak:r<6:=O1
   refine⟨_,(c3.imI V.imm).sees3 (o:=0) rfl,?_⟩
   conv=>whnf
   refine OM (enc:=ZE) (l:=QG (b.sc b.all.length)) Pg rfl (.inr (by rw[ab];exact mem_append_right _ bb)) λ it ej=>?_
   refine⟨Array Nat,λ seen=>[(2,.slice sa sl sc),(3,.nl),(4,.pb b4),(5,.pb b5),(6,.pb P),(9,.int .i64 r),(10,.int .i64 (Xi (λ k:WQ=>W0 k.1 r) (b.sc b.all.length) seen.toList:Nat)),(54,.int .i64 h.rl),(55,.int .i64 r),(59,.pb it)],
    λ seen U'=>N.frz.lg U'/\U'.M=.obj it (Jx mb (QG (b.sc b.all.length)).length seen)::(A++Ba)/\seen.toList.Nodup/\∀i∈seen.toList,i<(b.sc b.all.length).length,λ seen=>(b.sc b.all.length).length-seen.size,#[],T1,⟨V.trans (Z2 _ _),by show _::Ua.M=_;rw[ab],S1,S1⟩,?_⟩
   rintro seen f Ub⟨L,Q,co,av⟩
   have d9:seen.size<=(b.sc b.all.length).length:=by
    have:=XN co av;simpa using this
   have ek:=Lp (q:=λ k:WQ=>W0 k.1 r) an seen.toList;have d5:seen.toList.length*b.all.length<=3125*3125:=Nat.mul_le_mul (by rw[Array.length_toList];omega) hN
   conv=>whnf
   refine SA (enc:=ZE) (l:=QG (b.sc b.all.length)) (λ o=>.obj it o::(A++Ba)) rfl (.inr (by rw[Q];exact mem_cons_of_mem _ (mem_append_right _ bb))) (λ o=>by rw[Q];exact .here) (λ c2=>?_) (λ i p hp d7=>?_)
   .have hfin:Xi (λ k:WQ=>W0 k.1 r) (b.sc b.all.length) seen.toList=b.all.countP λ o=>(b.ends o).1.getD r false:=by
     rw[gB co av (λ i hi=>by have:=c2 i (by rw[vz];exact hi);simpa using this),b3];congr 1;funext o;exact LI _ ak
    have be:H2 (Xi (λ k:WQ=>W0 k.1 r) (b.sc b.all.length) seen.toList) b.all.length=b.fatR r:=by rw[hfin];rfl
    have dv:=Q9 (U:=Ub) (b:=P) (e:=3) (vs:=[.int .i64 (b.all.length:Nat)]) (.obj it (Jx mb (QG (b.sc b.all.length)).length seen)::(A++[.obj l OA,.obj d (.deferred (some []))])) (by rw[Q,<- aw];simp;rfl)
    repeat apply R1
    refine⟨_,dv 0 _ rfl,Tn.any,(Eu _ _).go λ _=>?_⟩;rw[be]
    conv=>whnf
    intro bn cm;refine jd (M':=A++Ba) cm (by rw[Q];exact sublist_cons_self ..) λ Ud dp ec dt ai=>?_;have ai:Zi Ud bn #[.int .i64 (b.fatR r)]:=ai;have a9:N.frz.lg Ud:=⟨λ x o h=>dp x o (L.imm x o h),Zz3,ec.trans L.tok⟩
    conv=>whnf
    refine Wn (v:=.slice sa sl sc) (cs:=((range r).map b.fatR).map λ n=>.int .i64 n) (new:=[.int .i64 (b.fatR r)]) (M₀:=Ba) Ig rfl rfl (by rw[dt];exact Z _) (.inr ⟨_,rfl,ai.rd⟩) rfl Zz1 S3 λ v' M' ah _=>?_;have ah:Acc 53 1 v' (((range (r+1)).map b.fatR).map λ n=>.int .i64 n) M' Ba:=by rw[range_succ];simpa using ah
    obtain⟨ce,H,ae⟩:=ah.split;obtain⟨ta,tl,tc,rfl,-⟩:=ae.src;refine⟨a7,?_⟩
    conv=>whnf
    exact⟨rfl,(r+1,.slice ta tl tc),T1,⟨⟨a9.imm,Zz3,a9.tok⟩,⟨ce,H,ae⟩,by show r+1<=h.rl;omega⟩,L1⟩
   .obtain⟨q,hq,rfl⟩:=vO hp;have eo:q.2<=3125:=Nat.le_trans (an q (mem_of_getElem? hq)) hN;have dz:=(Zz4 hq);have ad:=xu (q:=λ k:WQ=>W0 k.1 r) (seen:=seen) hq
    have bc:(seen.push i).toList.Nodup:=by
     rw[Array.toList_push,nodup_append];refine⟨co,S1,λ x hx y hy=>?_⟩;rw[mem_singleton.1 hy];rintro rfl;exact d7 (by simpa using hx)
    have ba:∀j∈(seen.push i).toList,j<(b.sc b.all.length).length:=by
     intro j hj;rw[Array.toList_push,mem_append]at hj;rcases hj with hj|hj
     .exact av j hj
     .rw[mem_singleton.1 hj];exact dz
    have bx:(b.sc b.all.length).length-(seen.push i).size<(b.sc b.all.length).length-seen.size:=by
     have:=XN bc ba;rw[Array.length_toList,Array.size_push]at this;rw[Array.size_push];omega
    have b0:N.frz.lg ({ Ub with M:=.obj it (Jx mb (QG (b.sc b.all.length)).length (seen.push i))::(A++Ba) }:Qa T):=⟨L.imm,Zz3,L.tok⟩;generalize c0:({ Ub with M:=.obj it (Jx mb (QG (b.sc b.all.length)).length (seen.push i))::(A++Ba) }:Qa T)=Uc at b0 ⊢;have ap:Uc.M=.obj it (Jx mb (QG (b.sc b.all.length)).length (seen.push i))::(A++Ba):=by rw[<- c0]
    clear c0
    repeat apply R1
    conv=>whnf
    refine OL (enc:=ZE) (l:=QG (b.sc b.all.length)) rfl (.inr (by rw[ap];exact mem_cons_of_mem _ (mem_append_right _ bb))) (.inr (by rw[ap];exact mem_cons_self ..)) hp ?_
    conv=>whnf
    intro el c6;refine⟨_,.refl _,rfl,Zv (vs:=QM (W0 q.1.1)) c6 rfl (Y_ _) λ Ud du am=>?_⟩;refine⟨_,⟨rfl,am.rd⟩,?_⟩
    conv=>whnf
    intro em c7;refine⟨_,.refl _,rfl,HO (vs:=QM (W0 q.1.1)) rfl (Y_ _) ?_⟩;refine⟨r,⟨rfl,ak⟩,rfl,?_⟩;rw[Nat.mul_one];refine vy (c:=(QM (W0 q.1.1)).toArray) (v:=.bool true) c7 ak rfl λ Ue c1 bq=>?_;rw[Dx _ ak]at bq;have am:=am.le c1;have b2:=du.trans c1;refine⟨_,⟨rfl,am.rd⟩,?_⟩;refine⟨_,⟨rfl,bq.rd⟩,?_⟩
    conv=>whnf
    obtain⟨eT,ei,a1,a2,a3,a4,a5⟩:=Oq.h;refine pD a1 a2 rfl a3 a4 a5 (vs:=QM (W0 q.1.1)) (ws:=QM (H1 (W0 q.1.1) r true)) rfl rfl rfl rfl (Ox _) (Ox _) ?_;rw[pR ak];have cy:=b2.own.trans ap;have b1:N.frz.lg Ue:=b0.trans b2.lg;cases df:W0 q.1.1 r with
    |true=>
     rw[if_pos df]at ad;refine⟨I1,?_⟩
     conv=>whnf
     exact⟨rfl,seen.push i,⟨rfl,rfl,rfl,rfl,rfl,rfl,by rw[ad];rfl,rfl,rfl,rfl,trivial⟩,⟨b1,cy,bc,ba⟩,bx⟩
    |false=>
     rw[if_neg (by rw[df];simp),Nat.add_zero]at ad
     conv=>whnf
     exact⟨rfl,seen.push i,⟨rfl,rfl,rfl,rfl,rfl,rfl,by rw[ad];rfl,rfl,rfl,rfl,trivial⟩,⟨b1,cy,bc,ba⟩,bx⟩
  .have hge:r=b.rs.length:=by simp at hc;omega
   subst hge;have Z:Jo 53 1 (.slice sa sl sc) (b.fatesR.map λ n=>.int .i64 n) A:=Z;refine⟨_,(c4.imI V.imm).sees3 (o:=0) rfl,Nat×Value,λ y=>[(2,.slice sa sl sc),(3,y.2),(6,.pb P),(81,.slice (some ⟨F,0,none⟩) h.cl h.cl),(82,.int .i64 h.cl),(83,.int .i64 y.1)],
    λ y U'=>N.frz.lg U'/\(∃A2,U'.M=A2++(A++Ba)/\Jo 53 1 y.2 (((range y.1).map b.fatC).map λ n=>.int .i64 n) A2)/\y.1<=h.cl,λ y=>h.cl-y.1,(0,.nl),T1,⟨V,⟨[],ab,.nil⟩,O1⟩,?_⟩
   rintro⟨i,v⟩f Ub⟨L,⟨A2,Q,K⟩,hi⟩;simp only at K hi;obtain⟨ua,ul,uc,rfl,es⟩:=K.src;have a7:Z9 ((i:Int)+1):=I1
   repeat apply R1
   conv=>whnf
   apply Qg<;>intro hc
   .have bm:i<h.cl:=by simpa using hc
    have d8:=Q9 (U:=Ub) (b:=F) (e:=3) (vs:=Wb b b.all.length 0) (A2++A++[.obj l OA,.obj d (.deferred (some [])),.obj P (.cells #[.int .i64 (b.all.length:Nat)] 3 (0,0))]) (by rw[Q,<- aw];simp;rfl);have ak:=Q9 (U:=Ub) (b:=P) (e:=3) (vs:=[.int .i64 (b.all.length:Nat)]) (A2++A++[.obj l OA,.obj d (.deferred (some []))]) (by rw[Q,<- aw];simp;rfl);have ag:=Gk (b:=b) (k:=b.all.length) (i:=0) (j:=i) O1;rw[if_neg O1]at ag
    have cr:Ub.sees ((Addr.mk F 0 none).add (i*1)) (.int .i64 (b.wc b.all.length i:Nat)):=by
     rw[Nat.mul_one];exact d8 i _ ag
    have be:H2 (b.wc b.all.length i) b.all.length=b.fatC i:=by unfold Bk.wc;rw[take_length];rfl
    refine⟨⟨F,0,none⟩,i,⟨rfl,rfl,bm⟩,_,cr,_,ak 0 _ rfl,Tn.any,(Eu _ _).go λ _=>?_⟩;rw[be]
    conv=>whnf
    intro bn cm;refine Zl cm λ Ud hd ai=>?_;have ai:Zi Ud bn #[.int .i64 (b.fatC i)]:=ai;have a9:=L.trans hd.lg
    conv=>whnf
    refine Wn (v:=.slice ua ul uc) (cs:=((range i).map b.fatC).map λ n=>.int .i64 n) (new:=[.int .i64 (b.fatC i)]) (M₀:=A++Ba) Ig rfl rfl (by rw[hd.own,Q];exact K _) (.inr ⟨_,rfl,ai.rd⟩) rfl Zz1 S3 λ v' M' ah _=>?_;have ah:Acc 53 1 v' (((range (i+1)).map b.fatC).map λ n=>.int .i64 n) M' (A++Ba):=by rw[range_succ];simpa using ah
    obtain⟨ce,H,ae⟩:=ah.split;obtain⟨ta,tl,tc,rfl,-⟩:=ae.src;refine⟨a7,?_⟩
    conv=>whnf
    exact⟨rfl,(i+1,.slice ta tl tc),T1,⟨⟨a9.imm,Zz3,a9.tok⟩,⟨ce,H,ae⟩,by show i+1<=h.cl;omega⟩,L1⟩
   .have hge:i=b.cs.length:=by simp at hc;omega
    subst hge;have K:Jo 53 1 (.slice ua ul uc) (b.fatesC.map λ n=>.int .i64 n) A2:=K;subst aw;refine⟨A2++(A++([.obj l OA,.obj d (.deferred none),.obj P (.cells #[.int .i64 (b.all.length:Nat)] 3 (0,0)),.obj F (.cells (Wb b b.all.length 0).toArray 3 (0,0)),.obj mb (Qt ZE (QG (b.sc b.all.length)))]++U.M)),by rw[Q];exact Pb (Pb (.there .here) _) _,?_⟩
    conv=>whnf
    exact⟨_,_,_,_,rfl,K _,Z _,λ x o hx=>L.imm x o (cv x o hx),L.tok.trans dh⟩
 .exact λ _ _ _ _ _ h=>h.elim
 .exact λ _ _ _ _ h=>h.elim
variable{u:Int}
def Jw.nil:Jw U .nl []:=⟨none,0,rfl,rfl,λ i x h=>by simp at h⟩
def BH.zero:BH:=⟨none,0,0,none,0,0⟩
def Bk.askF(b:Bk)(r:Int):Int:=if b.flaw Zg=0 then(if QP r 0 (b.nr-1)then 0 else 6)else b.flaw Zg
def Bk.askF_ok(h:b.askF u=0):b.Ok/\0<=u/\u<b.nr:=by
 unfold Bk.askF at h;split at h
 .rename_i h1;split at h
  .rename_i h2;simp only[QP,Bool.and_eq_true,decide_eq_true_eq]at h2;exact⟨Bk.ok_of h1,O1,O1⟩
  .cases h
 .rename_i h1;exact absurd h h1
def DV(h:BH)(b:Bk)(hb:Zr U.frz h b)(V:JU U):Qb S 10 #[h.v] (λ v U'=>(∃w E,v=.tuple #[w,E,.int .i64 (b.flaw Zg)]/\Jw U'.frz w (if b.flaw Zg=0 then b.fatesR else[])/\Jw U'.frz E (if b.flaw Zg=0 then b.fatesC else[]))/\U.le U') U:=by
 refine Qb.grown (R:=λ v U'=>∃w E,v=.tuple #[w,E,.int .i64 (b.flaw Zg)]/\Jw U' w (if b.flaw Zg=0 then b.fatesR else[])/\Jw U' E (if b.flaw Zg=0 then b.fatesC else[])) (λ v K M hl⟨w,E,e,h1,h2⟩=>⟨w,E,e,h1.lg hl,h2.lg hl⟩) (Qb.of (args:=[_]) T7 Qf S1 ?_)
 repeat apply R1
 conv=>whnf
 intro B K f F;have F:Zi K B #[.slice h.ra h.rl h.rc,.slice h.ca h.cl h.cc]:=F;refine⟨_,⟨rfl,F.rd⟩,?_⟩;refine⟨Kh.any,(YJ h b ((hb.lg f.lg.frz2).lg Qr) (V.lg f.lg)).go λ _=>?_⟩
 repeat apply R1
 conv=>whnf
 apply Qg<;>intro L
 .have hf:b.flaw Zg≠0:=by simpa using L
  repeat apply R1
  conv=>whnf
  rw[if_neg hf,if_neg hf];exact⟨⟨_,_,rfl,.nil,.nil⟩,f.lg⟩
 have hf:b.flaw Zg=0:=by simpa using L
 rw[if_pos hf,if_pos hf,hf];refine⟨_,⟨rfl,F.rd⟩,?_⟩;refine⟨OO.any,(E1 h b (hb.lg f.lg.frz2) (Bk.ok_of hf)).mono ?_⟩;rintro _ M⟨⟨w,E,rfl,H,I⟩,G⟩-;obtain⟨N,Q,rfl,h1⟩:=H;obtain⟨P,T,rfl,h2⟩:=I
 repeat apply R1
 conv=>whnf
 exact⟨⟨_,_,rfl,⟨N,Q,rfl,h1⟩,⟨P,T,rfl,h2⟩⟩,(f.trans G).lg⟩
def Ve(h:BH)(b:Bk)(hb:Zr U.frz h b)(V:JU U)(r:Int):Qb S 42 #[h.v,.int .i64 r] (λ v U'=>v=.tuple #[(if b.askF r=0 then h else BH.zero).v,.int .i64 (b.askF r)]/\U'=U) U:=by
 refine Qb.pure' (Qb.of (args:=[_,_]) PC Qf S1 ?_);have L:=hb.rs.1;have P:=hb.rl;have K:b.nr=(h.rl:Int):=by unfold Bk.nr;rw[L]
 repeat apply R1
 conv=>whnf
 intro B Q f I;have I:Zi Q B #[.slice h.ra h.rl h.rc,.slice h.ca h.cl h.cc]:=I
 conv=>whnf
 intro H G;refine⟨_,.refl _,?_⟩;have F:=I.lg (Z2 H (.cells #[.nl,.nl] 92));refine⟨_,⟨rfl,F.rd⟩,?_⟩;refine⟨Kh.any,(YJ h b (((hb.lg f.lg.frz2).lg Qr).lg (Z2 H _)) ((V.lg f.lg).lg (Z2 H _))).go λ _=>?_⟩
 repeat apply R1
 conv=>whnf
 apply Qg<;>intro N
 .have hf:b.flaw Zg≠0:=by simpa using N
  have ha:b.askF r=b.flaw Zg:=by unfold Bk.askF;rw[if_neg hf]
  rw[ha,if_neg hf];refine⟨rfl,Zv (vs:=[.nl,.nl]) G rfl Zz1 λ M w E=>?_⟩;refine⟨_,⟨rfl,E.rd⟩,?_⟩
  conv=>whnf
  exact⟨rfl,(f.trans w).lg⟩
 have hf:b.flaw Zg=0:=by simpa using N
 have ha:b.askF r=if QP r 0 ((h.rl:Int)-1)then 0 else 6:=by unfold Bk.askF;rw[if_pos hf,K]
 rw[ha];refine⟨_,F.sees3 (o:=0) rfl,I1,?_⟩;refine⟨Gh.any,(Wq _ _ _ _).go λ _=>?_⟩;cases T:QP r 0 ((h.rl:Int)-1)with
 |false=>
  refine⟨rfl,Zv (vs:=[.nl,.nl]) G rfl Zz1 λ M w E=>?_⟩;refine⟨_,⟨rfl,E.rd⟩,?_⟩
  conv=>whnf
  exact⟨rfl,(f.trans w).lg⟩
 |true=>
  refine⟨_,⟨rfl,F.rd⟩,?_⟩;refine⟨rfl,Zv (vs:=[.slice h.ra h.rl h.rc,.slice h.ca h.cl h.cc]) G rfl Zz1 λ M w E=>?_⟩;refine⟨_,⟨rfl,E.rd⟩,?_⟩
  conv=>whnf
  exact⟨rfl,(f.trans w).lg⟩
def Vg(h:BH)(b:Bk)(hb:Zr U.frz h b)(F:b.Ok)(r:Nat)(N:r<b.rs.length):Qb S 48 #[h.v,.int .i64 r] (λ v U'=>v=.int .i64 (b.fatR r)/\U'=U) U:=by
 refine Qb.pure' (Qb.of (args:=[_,_]) Gg Qf S1 ?_)
 repeat apply R1
 conv=>whnf
 intro B L f w;have w:Zi L B #[.slice h.ra h.rl h.rc,.slice h.ca h.cl h.cc]:=w;refine⟨_,⟨rfl,w.rd⟩,?_⟩;refine⟨OO.any,(E1 h b (hb.lg f.lg.frz2) F).mono ?_⟩;rintro _ Q⟨⟨Y,Z,rfl,G,H⟩,E⟩-;obtain⟨T,W,rfl,h1⟩:=G;obtain⟨V,X,rfl,h2⟩:=H;have K:b.fatesR.length=b.rs.length:=by simp[Bk.fatesR]
 obtain⟨M,x,hx,rfl,-,P⟩:=h1.at (show r<b.fatesR.length by omega)
 have I:x=b.fatR r:=by
  unfold Bk.fatesR at hx;rw[getElem?_map,getElem?_range N]at hx;exact(Option.some.inj hx).symm
 subst I
 repeat apply R1
 refine⟨M,r,⟨rfl,rfl,O1⟩,_,P.lg Qr,?_⟩
 repeat apply R1
 conv=>whnf
 exact(f.trans E).lg
variable{a:Option Addr}{j:List Bool}{cap:Nat}
def WM(U:Qa T)(v:Value)(l:List Bool):Prop:=∃a cap,v=.slice a l.length cap/\∀(i:Nat)x,l[i]?=some x->∃b,a=some b/\b.spot=none/\U.sees (b.add (i*1)) (.bool x)
def WM.lg{U':Qa T}{v:Value}{l:List Bool}(h:WM U v l)(k:U.lg U'):WM U' v l:=let ⟨a,c,e,h⟩:=h;⟨a,c,e,λ i x hx=>let ⟨ad,e',s,r⟩:=h i x hx;⟨ad,e',s,r.lg k⟩⟩
def WM.nil:WM U .nl []:=⟨none,0,rfl,λ i x h=>by simp at h⟩
def wu(h:Src U a (j.map .bool))(f:∀b,a=some b->b.spot=none):WM U (.slice a j.length cap) j:=by
 refine⟨a,cap,rfl,λ i x hx=>?_⟩;rcases h with⟨_,w⟩|⟨b,rfl,B⟩
 .rw[map_eq_nil_iff]at w;subst w;simp at hx
 .exact⟨b,rfl,f b rfl,by rw[Nat.mul_one];exact B i _ (by simp[hx])⟩
def Zi.bools{l:List Bool}(h:Zi U n c)(f:∀(i:Nat)(x:Bool),l[i]?=some x->c[i]?=some (.bool x)):WM U (.slice (some ⟨n,0,none⟩) l.length cap) l:=
 ⟨_,_,rfl,λ i x hx=>⟨_,rfl,rfl,by rw[Nat.mul_one,Qo];exact h.sees (by rw[Nat.zero_add];exact f i x hx)⟩⟩
def Bk.ordL_cons(b:Bk)(o:List Nat)(i:Int)(l:List Int):b.ordL o (i::l)=if QP i 0 (b.nc-1)then(if i.toNat∈o then 5 else if(Jf b.A i.toNat).all (λ k=>o.contains k)then b.ordL (o++[i.toNat]) l else 7)else 6:=rfl
def Bk.outF(b:Bk)(l:List Int):Int:=if b.flaw Zg=0 then b.ordF l else b.flaw Zg
def jm(w:List Bool):((range w.length).map λ k=>Value.bool ((Jz w).testBit k))=w.map .bool:=by
 apply ext_getElem?;intro i;rw[getElem?_map,getElem?_map];by_cases h:i<w.length
 .rw[getElem?_range h,getElem?_eq_getElem h];simp[PJ,getD_eq_getElem?_getD,getElem?_eq_getElem h]
 .rw[getElem?_eq_none S3,getElem?_eq_none O1];rfl
def Qb.lists2g{R:Value->Qa T->Prop}(Q:∀v H K,H.lg K->R v H->R v K)
  (h:Qb d f args (λ v U'=>∃w G A,v=.tuple (w::G::rest).toArray/\R w U'.frz/\Acc e 1 G cs U'.M (A++U.M)/\(∀x N,U.I x=some N->U'.I x=some N)/\U'.tok=U.tok) U) :
  Qb d f args (λ v U'=>(∃w a len cap,v=.tuple (w::.slice a len cap::rest).toArray/\R w U'.frz/\cs.length=len/\Src U'.frz a cs/\∀L,a=some L->L.spot=none)/\U.le U') U:=by
 refine h.sep λ v U' V⟨w,G,A,W,h1,h2,P,ht⟩=>?_;obtain⟨M',b,h2⟩:=h2.letgo;obtain⟨U'',Y,E,a,len,cap,rfl,hl,B,F,_⟩:=h2.freeze (U:={ U' with M:=U.M }) (U':={ U' with M:=M' }) (V.sublist b) (λ _ _ h=>h) rfl;have X:U'.frz.lg U''.frz:=⟨E.imm,⟨[],rfl⟩,E.tok⟩;exact⟨U'',(Zx b).trans Y,⟨w,a,len,cap,W,Q _ _ _ X h1,O1,B,F⟩,⟨λ x o h=>E.imm x o (P x o h),E.own,E.tok.trans ht⟩⟩
def DK(h:BH)(b:Bk)(hb:Zr U.frz h b)(hk:JU U)(a:Option Addr)(len cap:Nat)(l:List Int)(hl:Z6 U.frz a len l)(cx:len<2^60) :
  Qb S 19 #[h.v,.slice a len cap] (λ v U'=>(∃v1 v2,v=.tuple #[v1,v2,.int .i64 (b.outF l)]/\WM U'.frz v1 (if b.outF l=0 then(b.ends (l.map Int.toNat)).1 else[])/\WM U'.frz v2 (if b.outF l=0 then(b.ends (l.map Int.toNat)).2 else[]))/\U.le U') U:=by
 refine(Qb.lists2g (e:=4) (cs:=(if b.outF l=0 then(b.ends (l.map Int.toNat)).2 else[]).map .bool) (R:=λ v U'=>WM U' v (if b.outF l=0 then(b.ends (l.map Int.toNat)).1 else[])) (rest:=[.int .i64 (b.outF l)]) (λ v U1 U2 hl h=>h.lg hl) (Qb.of (args:=[_,_]) T8 Qf S1 ?_)).post λ v U'⟨⟨v1,a,len,cap,e,h1,h2,h3,h4⟩,K⟩=>⟨U',.refl _,⟨v1,_,e,h1,by rw[length_map]at h2;rw[<- h2];exact wu h3 h4⟩,K⟩;have cg:=hb.cs.1;have c4:=hb.rs.1;have c2:=hl.1
 repeat apply R1
 conv=>whnf
 intro B U1 L hB;have hB:Zi U1 B #[.slice h.ra h.rl h.rc,.slice h.ca h.cl h.cc]:=hB;refine⟨_,⟨rfl,hB.rd⟩,?_⟩;refine⟨Kh.any,(YJ h b ((hb.lg L.lg.frz2).lg Qr) (hk.lg L.lg)).go λ _=>?_⟩
 repeat apply R1
 conv=>whnf
 apply Qg<;>intro hc
 .have hf:b.flaw Zg≠0:=by simpa using hc
  have hF:b.outF l=b.flaw Zg:=by unfold Bk.outF;rw[if_neg hf]
  rw[hF,if_neg hf,if_neg hf]
  repeat apply R1
  conv=>whnf
  exact⟨_,_,[],rfl,.nil,by rw[L.own];exact .nil,L.imm,L.tok⟩
 have hf:b.flaw Zg=0:=by simpa using hc
 have hF:b.outF l=b.ordF l:=by unfold Bk.outF;rw[if_pos hf]
 have ap:=Bk.ok_of hf;have c3:=ap.nc;have ct:=ap.nr;rw[hF];refine⟨_,hB.sees3 (o:=1) rfl,?_⟩
 repeat apply R1
 conv=>whnf
 apply Qg<;>intro hc
 .have hne:l.length≠b.cs.length:=by simp at hc;omega
  have a7:b.ordF l=2:=by unfold Bk.ordF;rw[if_pos hne]
  rw[a7]
  repeat apply R1
  conv=>whnf
  exact⟨_,_,[],rfl,.nil,by rw[L.own];exact .nil,L.imm,L.tok⟩
 have c0:l.length=b.cs.length:=by simp at hc;omega
 have a7:b.ordF l=b.ordL [] l:=by unfold Bk.ordF;rw[if_neg O1]
 rw[a7];refine⟨_,⟨rfl,hB.rd⟩,?_⟩
 conv=>whnf
 intro b8 ck;refine⟨_,.refl _,rfl,Zv (vs:=[.slice h.ra h.rl h.rc,.slice h.ca h.cl h.cc]) ck rfl Zz1 λ U2 bg bi=>?_⟩;have E:=L.trans bg;refine⟨_,⟨rfl,bi.rd⟩,?_⟩;refine⟨OT.any,(Et h b ((hb.lg E.lg.frz2).lg Qr) ct).go λ _=>?_⟩;have cu:Jz b.ini.2=0:=Il _
 conv=>whnf
 intro b9 c1;refine⟨_,.refl _,rfl,HO (vs:=QR .nl (W0 b.ini.1) 0) rfl (by simp[QR,Value.single]) ?_⟩;have b1:Zi U2 B #[.slice h.ra h.rl h.rc,.slice h.ca h.cl h.cc]:=hB.le bg;have ah:U.frz.lg U2.frz:=E.lg.frz2
 refine⟨Nat×Option Addr×Nat,λ y=>[(1,.slice a len cap),(2,.pb B),(8,.pb b8),(9,.pb b9),(28,.slice a len cap),(29,.int .i64 len),(30,.int .i64 y.1)],
  λ y U'=>U2.frz.lg U'/\U'.M=.obj b9 (.cells (QR (.slice y.2.1 y.1 y.2.2) (W0 (b.ends ((l.take y.1).map Int.toNat)).1) (Jz (b.ends ((l.take y.1).map Int.toNat)).2)).toArray 122 (0,0))::U.M/\y.1<=len/\Z6 U'.frz y.2.1 y.1 (((l.take y.1).map Int.toNat).map λ(k:Nat)=>(k:Int))/\y.1<=y.2.2/\(∀ad,y.2.1=some ad->ad.spot=none)/\(∀k∈(l.take y.1).map Int.toNat,k<b.cs.length)/\b.ordL [] l=b.ordL ((l.take y.1).map Int.toNat) (l.drop y.1),
  λ y=>len-y.1,(0,none,0),T1,⟨⟨λ _ _ h=>h,Zz3,rfl⟩,?_,O1,⟨rfl,λ i x hx=>by simp at hx⟩,Nat.le_refl _,S1,S1,rfl⟩,?_⟩
 .show _::U2.M=_;rw[E.own];show _=Qw.obj b9 (.cells (QR .nl (W0 b.ini.1) (Jz b.ini.2)).toArray 122 (0,0))::U.M;rw[cu]
 rintro⟨i,xa,xc⟩f U3⟨Q,hM,hi,am,bt,bu,V,w⟩;simp only at hM hi am bt bu V w;have co:Z9 ((i:Int)+1):=I1
 have an:Zi U3 B #[.slice h.ra h.rl h.rc,.slice h.ca h.cl h.cc]:=b1.imI Q.imm;have bj:Zi U3 b8 #[.slice h.ra h.rl h.rc,.slice h.ca h.cl h.cc]:=bi.imI Q.imm;have ae:=Q9 [] hM;have ak:((l.take i).map Int.toNat).length=i:=by rw[length_map,length_take];omega
 have bd:∀n∈((l.take i).map Int.toNat).map (λ(k:Nat)=>(k:Int)),0<=n/\n<60:=by
  intro n hn;obtain⟨k,hk,rfl⟩:=mem_map.1 hn;have:=V k hk;omega
 repeat apply R1
 conv=>whnf
 apply Qg<;>intro hc
 .have hlt:i<len:=by simpa using hc
  obtain⟨ad,n,hx,rfl,c5,hs⟩:=((hl.lg (ah.trans Q.frz2)).lg Qr).at hlt;rw[Hl hx,b.ordL_cons]at w;refine⟨ad,i,⟨rfl,rfl,hlt⟩,_,hs,_,an.sees3 (o:=1) rfl,I1,?_⟩;refine⟨Gh.any,(Wq _ _ _ _).go λ _=>?_⟩;have bo:b.nc=(h.cl:Int):=by unfold Bk.nc;rw[cg]
  rw[bo]at w
  have bad:∀(ab:Qa T)(F:Int),U3.le ab->F≠0->b.ordL [] l=F->∃v1 v2 A,Value.tuple #[.nl,.nl,.int .i64 F]=.tuple (v1::v2::[Value.int .i64 (b.ordL [] l)]).toArray/\WM ab.frz v1 (if b.ordL [] l=0 then(b.ends (l.map Int.toNat)).1 else[])/\Acc 4 1 v2 ((if b.ordL [] l=0 then(b.ends (l.map Int.toNat)).2 else[]).map .bool) ab.M (A++U.M)/\(∀x ox,U.I x=some ox->ab.I x=some ox)/\ab.tok=U.tok:=by
   intro ab F h3 h0 e;rw[e,if_neg h0,if_neg h0];exact⟨_,_,[_],rfl,.nil,by rw[h3.own,hM];exact .nil,λ x o hx=>h3.imm x o (Q.imm x o (E.imm x o hx)),h3.tok.trans (Q.tok.trans E.tok)⟩
  cases a8:QP n 0 ((h.cl:Int)-1)with
  |false=>
   rw[a8]at w;have:=bad _ 6 (.refl _) D1 w
   repeat apply R1
   conv=>whnf
   exact this
  |true=>
  rw[if_pos a8]at w
  have cr:0<=n/\n<h.cl:=by
   simp only[QP,Bool.and_eq_true,decide_eq_true_eq]at a8;omega
  obtain⟨k,rfl⟩:=Int.eq_ofNat_of_zero_le cr.1;rw[Int.toNat_natCast]at w;have bl:k<h.cl:=O1
  have a9:(((l.take i).map Int.toNat).map λ(k:Nat)=>(k:Int)).contains (k:Int)=decide (k∈(l.take i).map Int.toNat):=by
   rw[Bool.eq_iff_iff,contains_iff_mem,decide_eq_true_eq,mem_map];constructor
   .rintro⟨k',h1,h2⟩
    rwa [<- Int.ofNat.inj h2]
   .exact λ h=>⟨k,h,rfl⟩
  refine⟨_,ae.cell (i:=0) rfl,OP.any,(DE xa i xc _ (am.lg Qr) O1 (k:Int)).go λ _=>?_⟩;rw[a9];by_cases Z:k∈(l.take i).map Int.toNat
  .rw[if_pos Z]at w;rw[decide_eq_true Z];have:=bad _ 5 (.refl _) D1 w
   repeat apply R1
   conv=>whnf
   exact this
  rw[if_neg Z]at w;rw[decide_eq_false Z];obtain⟨b0,c,ga,gl,gc,aa,al,ac,ch,cj,cy,bq,-,-,ha,b3,bm⟩:=(hb.lg (ah.trans Q)).case bl;have W:=ap.toLow.lt bm;have b4:=Bk.aft1_at ch;have ao:=λ U'(K:U3.le U')=>Z8 (S:=S) (U:=U') aa al ac c.af (ha.lg K.lg) b3 W;have P:=Z8 (S:=S) (U:=U3) xa i xc _ (am.lg Qr) O1 bd;rw[OG]at P;have b6:Z4 (c.af.map Int.toNat)<2^60:=Hc (toNat_lt W);have ce:Z4 ((l.take i).map Int.toNat)<2^60:=Hc λ x hx=>by have:=V x hx;omega
  have key:_↔(Jf b.A k).all (λ k=>(Z4 ((l.take i).map Int.toNat)).testBit k)=true:=(Sv b6 ce).trans ((Su W).trans (by rw[b4]))
  have bz:(Jf b.A k).all (λ j=>(Z4 ((l.take i).map Int.toNat)).testBit j)=(Jf b.A k).all λ j=>((l.take i).map Int.toNat).contains j:=by
   congr 1;funext j;exact Wv _ j
  rw[bz]at key;refine⟨_,an.sees3 (o:=1) rfl,b0,k,⟨cj,rfl,bl⟩,_,bq.cell (i:=3) rfl,.int .i64 (Z4 (c.af.map Int.toNat):Nat),λ U' K _=>?_,?_⟩
  .refine⟨XO.any,(ao U' K).mono ?_⟩;rintro _ U''⟨rfl,hU⟩-;exact⟨rfl,_,.refl _,hU▸.refl _⟩
  refine⟨_,ae.cell (i:=0) rfl,?_⟩
  conv=>whnf
  intro U4 H _;have ai:=Q.trans H.lg;have be:=H.own.trans hM;have bp:=Q9 [] be
  conv=>whnf
  have P:=Z8 (S:=S) (U:=U4) xa i xc _ ((am.lg H.lg.frz2).lg Qr) O1 bd;rw[OG]at P;refine⟨XO.any,P.go λ _=>?_⟩
  repeat apply R1
  conv=>whnf
  apply Qg<;>intro hc
  .have hno:(Jf b.A k).all (λ j=>((l.take i).map Int.toNat).contains j)=false:=by
    cases hh:(Jf b.A k).all (λ j=>((l.take i).map Int.toNat).contains j)with
    |false=>rfl
    |true=>exact absurd (key.2 hh) (bne_iff_ne.1 hc)
   rw[hno]at w;have:=bad _ 7 H D1 w
   repeat apply R1
   conv=>whnf
   exact this
  have bw:(Jf b.A k).all (λ j=>((l.take i).map Int.toNat).contains j)=true:=key.1 (bne_eq_false_iff_eq.1 hc);rw[if_pos bw]at w;have G:=b.ends_len ((l.take i).map Int.toNat);have b2:Zi U4 b8 #[.slice h.ra h.rl h.rc,.slice h.ca h.cl h.cc]:=bj.le H;have bb:(l.take (i+1)).map Int.toNat=(l.take i).map Int.toNat++[k]:=by rw[Wf hx,map_append];rfl
  have cw:i<5:=O1
  have aw:=D_ (S:=S) (U:=U4) h b ((hb.lg (ah.trans ai.frz2)).lg Qr) ap xa xc ((l.take i).map Int.toNat) (b.ends ((l.take i).map Int.toNat)) (by rw[ak];exact(am.lg H.lg.frz2).lg Qr) bu (by rw[ak];exact bt) (by rw[ak];omega) G.1 G.2 k O1;rw[ak,<- b.ends_snoc,<- bb]at aw;refine⟨_,⟨rfl,b2.rd⟩,?_⟩;refine⟨_,⟨rfl,bp⟩,OU.any,aw.mono ?_⟩;rintro _ U5⟨⟨a',c',rfl,a6,a0,bv⟩,bh⟩-;have aj:=ai.trans bh.lg;have bf:=bh.own.trans be;have ax:((l.take (i+1)).map Int.toNat).length=i+1:=by rw[length_map,length_take];omega
  rw[ax]at a6 a0;refine⟨rfl,Wd (vs:=QR (.slice a' ((l.take (i+1)).map Int.toNat).length c') (W0 (b.ends ((l.take (i+1)).map Int.toNat)).1) (Jz (b.ends ((l.take (i+1)).map Int.toNat)).2)) [] bf rfl (by simp[QR,Value.single]) λ U6 au az av=>?_⟩;rw[ax]at av;have ba:U2.frz.lg U6:=⟨λ x o hx=>by rw[au];exact aj.imm x o hx,Zz3,az.trans aj.tok⟩;have bx:U5.frz.lg U6.frz:=⟨λ x o hx=>by show U6.I x=_;rw[au];exact hx,⟨[],rfl⟩,az⟩;refine⟨co,rfl,(i+1,a',c'),T1,⟨ba,av,by show i+1<=len;omega,a6.lg bx,a0,bv,?_,by rw[bb];exact w⟩,L1⟩;intro x ag;rw[bb,mem_append]at ag;rcases ag with ag|ag
  .exact V x ag
  .rw[mem_singleton.1 ag];omega
 .have hge:i=l.length:=by simp at hc;omega
  subst hge;rw[drop_length]at w;have hz:b.ordL [] l=0:=w;rw[take_length]at hM ae ak V;rw[hz,if_pos rfl,if_pos rfl];have G:=b.ends_len (l.map Int.toNat);generalize b.ends (l.map Int.toNat)=e at hM ae G;obtain⟨e1,e2⟩:=e;simp only at hM ae G;obtain⟨h1,h2⟩:=G;have bs:Jz e2<2^60:=Nat.lt_trans (SZ e2 (m:=5) O1) D1;refine⟨_,an.sees3 (o:=0) rfl,_,ae.cell (i:=7) rfl,_,an.sees3 (o:=1) rfl,?_⟩
  conv=>whnf
  obtain⟨eT,cv,a1,a2,a3,a4,a5⟩:=Oq.h;refine⟨λ v U'=>v=.slice (some ⟨b9,1,none⟩) h.rl 6,λ v _ _ X _=>X,λ U' K hC=>?_,λ v X=>?_⟩
  .conv=>whnf
   refine je (b:=b9) (o:=1) (n:=h.rl) (N:=6) a1 a3 rfl rfl O1 ?_;exact⟨_,.refl _,rfl,.refl _⟩
  obtain⟨_,-,-,rfl⟩:=X;refine⟨λ v U'=>WM U'.frz v e1,λ v U1 U2 X K=>X.lg K.lg.frz2,λ U' K hC=>?_,λ v X=>?_⟩
  .have hrd':=Q9 [] (K.own.trans hM)
   have br:Src U' (some ⟨b9,1,none⟩) (e1.map .bool):=.inr ⟨_,rfl,λ i v X=>by
    rw[getElem?_map]at X;cases hx:e1[i]? with
    |none=>rw[hx]at X;cases X
    |some x=>
     rw[hx]at X;cases X;have bk:i<6:=by have:=(Zz4 hx);omega
     have h3:(QM (W0 e1))[i]?=some (.bool x):=by
      rw[SW _ bk];simp[W0,getD_eq_getElem?_getD,hx]
     have h4:=hrd' (1+i) (.bool x) (by
      rcases G9 bk with rfl|rfl|rfl|rfl|rfl|rfl <;> exact h3)
     rw[Qo]at h4 ⊢
     rwa [Nat.zero_add]at h4⟩
   conv=>whnf
   refine Du (sa:=none) (sl:=0) (cs:=[]) (new:=e1.map .bool) If rfl rfl (.inl ⟨rfl,rfl⟩) rfl br (by rw[length_map];omega) (by rw[length_map,length_nil];omega) (λ h0=>?_) (λ _ bn cn bc cm cq c6 cf=>?_)
   .have:e1=[]:=by simpa using h0
    subst this;exact⟨_,.refl _,.nil,.refl _⟩
   .refine Zl cm λ U1 cp b7=>⟨?_,cp⟩;have b5:Zi U1.frz bn cn:=b7;have:=b5.bools (l:=e1) (cap:=bc) (λ i x hx=>cf i _ (by simp[hx]));rw[Nat.zero_add,show h.rl=e1.length by omega];exact this
  obtain⟨_,-,-,va,vc,rfl,-⟩:=X
  conv=>whnf
  intro U4 H hC;obtain⟨-,X⟩:=hC;refine⟨UR.any,(qV (Jz e2) h.cl bs O1).mono ?_⟩;rintro v U5⟨Y,aq,ay⟩-;rw[show h.cl=e2.length by omega,jm]at Y;obtain⟨ta,tl,tc,rfl,-,-⟩:=Acc.src (U:=U5) Y;rw[H.own,hM]at Y
  repeat apply R1
  conv=>whnf
  exact⟨_,_,[_],rfl,X.lg ⟨aq,⟨[],rfl⟩,ay⟩,Y,λ x o hx=>aq x o (H.imm x o (Q.imm x o (E.imm x o hx))),ay.trans (H.tok.trans (Q.tok.trans E.tok))⟩
variable{F D:Qw}
def Qa.on_of(h:U.M=F::D::M):U=({ U with M:=M }:Qa T).on F D:=by
 obtain⟨i,m,t⟩:=U;simp only[Qa.on]at h ⊢;rw[h]
def Bk.dfO(b:Bk)(r k:Nat)(w:Bool):Option (List Nat):=(b.all.take k).find? λ o=>(b.ends o).1.getD r false==w
def Bk.dfO_succ{w:Bool}(h:b.all[k]?=some o):b.dfO r (k+1) w=(b.dfO r k w).or (if(b.ends o).1.getD r false==w then some o else none):=by
 unfold Bk.dfO;rw[Wf h,find?_append,find?_singleton]
def Bk.dfO_end(b:Bk)(r:Nat)(w:Bool):(b.dfO r b.all.length w).getD []=b.difS r w:=by unfold Bk.dfO Bk.difS;rw[take_length]
def QO(o:Option (List Nat)):List Int:=(o.getD []).map λ(k:Nat)=>(k:Int)
def qG(h:BH)(b:Bk)(hb:Zr U.frz h b)(hk:JU U)(r:Int) :
  Qb S 20 #[h.v,.int .i64 r] (λ v U'=>(∃v1 v2,v=.tuple #[v1,v2,.int .i64 (b.askF r)]/\Jw U'.frz v1 (if b.askF r=0 then(b.difS r.toNat true).map λ(k:Nat)=>(k:Int)else[])/\Jw U'.frz v2 (if b.askF r=0 then(b.difS r.toNat false).map λ(k:Nat)=>(k:Int)else[]))/\U.le U') U:=by
 refine Qb.grown (R:=λ v U'=>∃v1 v2,v=.tuple #[v1,v2,.int .i64 (b.askF r)]/\Jw U' v1 (if b.askF r=0 then(b.difS r.toNat true).map λ(k:Nat)=>(k:Int)else[])/\Jw U' v2 (if b.askF r=0 then(b.difS r.toNat false).map λ(k:Nat)=>(k:Int)else[])) (λ v U1 U2 hl⟨v1,v2,e,h1,h2⟩=>⟨v1,v2,e,h1.lg hl,h2.lg hl⟩) (Qb.of (args:=[_,_]) UP Qf S1 ?_);have bq:=hb.rs.1
 repeat apply R1
 conv=>whnf
 intro B U1 be hB;have hB:Zi U1 B #[.slice h.ra h.rl h.rc,.slice h.ca h.cl h.cc]:=hB
 conv=>whnf
 intro b3 U2 a7 ad;have ad:Zi U2 b3 #[.int .i64 r]:=ad
 conv=>whnf
 intro b4 bm;refine⟨_,.refl _,?_⟩
 conv=>whnf
 intro b5 bn;refine⟨_,.refl _,?_⟩;have f:=be.trans a7;have N:U2.lg ((U2.put b4 (.cells #[.nl] 29)).put b5 (.cells #[.nl] 29)):=(Z2 b4 _).trans (Z2 b5 _);refine⟨_,⟨rfl,((hB.le a7).lg N).rd⟩,?_⟩;refine⟨_,(ad.lg N).sees3 (o:=0) rfl,PC.any,(Ve h b (hb.lg (f.lg.frz2.trans N.frz2)) (hk.lg (f.lg.trans N)) r).go λ _=>?_⟩;by_cases hF:b.askF r=0
 .rw[hF,if_pos rfl,if_pos rfl,if_pos rfl];obtain⟨bb,bh,bk⟩:=Bk.askF_ok hF;obtain⟨q,rfl⟩:=Int.eq_ofNat_of_zero_le bh;rw[Int.toNat_natCast];have bp:=bb.nr;have ae:q<6:=by unfold Bk.nr at bk;omega
  conv=>whnf
  intro b7 aq;refine⟨_,.refl _,rfl,Zv (vs:=[.slice h.ra h.rl h.rc,.slice h.ca h.cl h.cc]) aq rfl Zz1 λ U3 P a8=>?_⟩
  repeat apply R1
  conv=>whnf
  intro b8 bf;refine⟨_,.refl _,?_⟩;have Q:=Z2 (U:=U3) b8 (.cells #[.bool false,.bool false] 125);refine⟨_,⟨rfl,(a8.lg Q).rd⟩,?_⟩;refine⟨OV.any,(Ea h b ((hb.lg (f.lg.frz2.trans (N.frz2.trans (P.lg.frz2.trans Q.frz2)))).lg Qr)).mono ?_⟩;rintro _ U4⟨⟨B',rfl,a1⟩,aj⟩-;have aw:U.frz.lg U4.frz:=f.lg.frz2.trans (N.frz2.trans (P.lg.frz2.trans (Q.frz2.trans aj.lg.frz2)));have ad:Zi U4 b3 #[.int .i64 (q:Int)]:=ad.lg (N.trans (P.lg.trans (Q.trans aj.lg)))
  have ay:U4.M=.obj b8 (.cells #[.bool (b.dfO q 0 true).isSome,.bool (b.dfO q 0 false).isSome] 125 (0,0))::.obj b5 (.cells #[.nl] 29 (0,0))::.obj b4 (.cells #[.nl] 29 (0,0))::U.M:=by
   rw[aj.own];show _::U3.M=_;rw[P.own];show _::_::_::U2.M=_;rw[f.own];rfl
  have bg:∀l U5,U4.frz.lg U5->Yq S 83 #[.func (.yield l) #[] #[],.pb B'] l b.all.length (GJ b) U5:=λ l U5 hl=>DP h b (hb.lg (aw.trans hl.frz2)) bb (a1.imI hl.imm);have a0:U4.tok=U.tok:=aj.tok.trans (Q.tok.trans (P.tok.trans (N.tok.trans f.tok)));clear a1 Q aj P aq bf N
  conv=>whnf
  let Inv:Nat->Qa T->Prop:=λ k U'=>U4.frz.lg U'/\∃v4 v5,U'.M=.obj b8 (.cells #[.bool (b.dfO q k true).isSome,.bool (b.dfO q k false).isSome] 125 (0,0))::.obj b5 (.cells #[v5] 29 (0,0))::.obj b4 (.cells #[v4] 29 (0,0))::U.M/\Jw U'.frz v4 (QO (b.dfO q k true))/\Jw U'.frz v5 (QO (b.dfO q k false))
  refine IB Qf b.all.length (GJ b) Inv (λ _ _=>False) (λ _=>False) rfl rfl Tq.any bg ?_ ?_ ⟨Qr,_,_,ay,.nil,.nil⟩ ?_ ?_ ?_ ?_
  .rintro k p U' ⟨o,v,-,rfl,-⟩;rfl
  .rintro k U' U'' H ⟨hl,v4,v5,hM,h4,h5⟩;exact⟨Uf hl H,v4,v5,H.own.trans hM,h4.lg H.lg.frz2,h5.lg H.lg.frz2⟩
  .rintro l A' Bd D k p U₀ KN KX KR KA hk' ⟨o,v,ho,rfl,a,cap,rfl,hio,hcap,hsp⟩ ⟨hl,v4,v5,hM,h4,h5⟩ hKN hKX hKR hKA;obtain⟨a4,c4,rfl,h4⟩:=h4;obtain⟨a5,c5,rfl,h5⟩:=h5
   conv=>whnf
   intro b9 ba;refine⟨_,.refl _,rfl,Zv (vs:=QR (.slice a o.length cap) (W0 (b.ends o).1) (Jz (b.ends o).2)) ba rfl (by simp[QR,Value.single]) λ U5 ap av=>?_⟩
   conv=>whnf
   rw[Qa.on_of (ap.own:U5.M=A'::D::U₀.M)];refine hKA _ _ ?_;have V:(({ U5 with M:=U₀.M }:Qa T).on Bd D).M=[Bd,D]++(.obj b8 (.cells #[.bool (b.dfO q k true).isSome,.bool (b.dfO q k false).isSome] 125 (0,0))::.obj b5 (.cells #[.slice a5 (QO (b.dfO q k false)).length c5] 29 (0,0))::.obj b4 (.cells #[.slice a4 (QO (b.dfO q k true)).length c4] 29 (0,0))::U.M):=by show Bd::D::U₀.M=_;rw[hM];rfl
   have E:U₀.frz.lg (({ U5 with M:=U₀.M }:Qa T).on Bd D):=⟨λ x o h=>ap.imm x o h,Zz3,ap.tok⟩;have a9:Zi (({ U5 with M:=U₀.M }:Qa T).on Bd D) b9 (QR (.slice a o.length cap) (W0 (b.ends o).1) (Jz (b.ends o).2)).toArray:=av;generalize(({ U5 with M:=U₀.M }:Qa T).on Bd D)=U6 at V E a9 ⊢;clear ap av ba;have ab:Zi U6 b3 #[.int .i64 (q:Int)]:=ad.imI λ x o h=>E.imm x o (hl.imm x o h)
   have bl:(QR (.slice a o.length cap) (W0 (b.ends o).1) (Jz (b.ends o).2))[1+q]?=some (.bool ((b.ends o).1.getD q false)):=by
    have:=SW (W0 (b.ends o).1) ae;rcases G9 ae with rfl|rfl|rfl|rfl|rfl|rfl <;> exact this
   have al:Je U6 ⟨b9,0,none⟩ (QR (.slice a o.length cap) (W0 (b.ends o).1) (Jz (b.ends o).2)):=a9.reads λ k v hv=>by simpa using hv
   have au:U6.sees (((Addr.mk b9 0 none).add 1).add (q*1)) (.bool ((b.ends o).1.getD q false)):=by
    have:=al (1+q) _ bl;rw[Qo]at this;rw[Qo,Qo,Nat.mul_one]
    rwa [Nat.zero_add]at this ⊢
   have F:=b.dfO_succ (r:=q) (w:=true) ho;have G:=b.dfO_succ (r:=q) (w:=false) ho;have bc:Jw U6.frz (.slice a o.length cap) (o.map λ(k:Nat)=>(k:Int)):=⟨a,cap,S1,by rw[length_map];exact hio.lg E.frz2⟩;have h4:Jw U6.frz (.slice a4 (QO (b.dfO q k true)).length c4) (QO (b.dfO q k true)):=⟨a4,c4,rfl,h4.lg E.frz2⟩;have h5:Jw U6.frz (.slice a5 (QO (b.dfO q k false)).length c5) (QO (b.dfO q k false)):=⟨a5,c5,rfl,h5.lg E.frz2⟩;have Y:=Q9 [Bd,D] V;have bo:U4.frz.lg U6.frz:=hl.frz2.trans E.frz2
   have same:∀(ax:Zk T)ao an,(∀ao an U3,U₀.frz.lg U3->Inv (k+1) U3->ax ao an (U3.on Bd D))->b.dfO q (k+1) true=b.dfO q k true->b.dfO q (k+1) false=b.dfO q k false->ax ao an U6:=by
    intro ax ao an hK e1 e2;rw[Qa.on_of (V:U6.M=Bd::D::(.obj b8 (.cells #[.bool (b.dfO q k true).isSome,.bool (b.dfO q k false).isSome] 125 (0,0))::.obj b5 (.cells #[.slice a5 (QO (b.dfO q k false)).length c5] 29 (0,0))::.obj b4 (.cells #[.slice a4 (QO (b.dfO q k true)).length c4] 29 (0,0))::U.M))];refine hK _ _ _ ⟨E.imm,Zz3,E.tok⟩ ⟨⟨λ x o h=>E.imm x o (hl.imm x o h),Zz3,E.tok.trans hl.tok⟩,.slice a4 (QO (b.dfO q k true)).length c4,.slice a5 (QO (b.dfO q k false)).length c5,?_,?_,?_⟩
    .rw[e1,e2];rfl
    .rw[e1];exact h4
    .rw[e2];exact h5
   refine⟨_,ab.sees3 (o:=0) rfl,q,⟨rfl,ae⟩,_,au,?_⟩;cases hs:(b.ends o).1.getD q false with
   |true=>
    rw[hs]at F G;cases e4:b.dfO q k true with
    |none=>
     rw[e4]at F;simp at F G;rw[e4]at V Y;refine⟨0,⟨rfl,O1⟩,_,Y 0 _ rfl,?_⟩
     repeat apply R1
     refine⟨_,al 0 _ rfl,rfl,Wd (vs:=[.slice a o.length cap]) [Bd,D,_,_] V rfl Zz1 λ U7 K L X=>?_⟩;refine⟨0,⟨rfl,O1⟩,rfl,WN (i:=0) (v:=.bool true) [Bd,D] X (by show 0<2;omega) rfl λ U8 W Z ai=>?_⟩;have hz:U6.frz.lg U8.frz:=⟨λ x o hx=>by show U8.I x=_;rw[W,K];exact hx,⟨[],rfl⟩,Z.trans L⟩;have af:∀x o,U₀.I x=some o->U8.I x=some o:=λ x o hx=>by rw[W,K];exact E.imm x o hx
     have am:U8.tok=U₀.tok:=by rw[Z,L];exact E.tok
     conv=>whnf
     rw[Qa.on_of (ai:U8.M=Bd::D::(.obj b8 (.cells #[.bool true,.bool (b.dfO q k false).isSome] 125 (0,0))::.obj b5 (.cells #[.slice a5 (QO (b.dfO q k false)).length c5] 29 (0,0))::.obj b4 (.cells #[.slice a o.length cap] 29 (0,0))::U.M))];refine hKN _ _ _ ⟨af,Zz3,am⟩ ⟨⟨λ x o h=>af x o (hl.imm x o h),Zz3,am.trans hl.tok⟩,.slice a o.length cap,.slice a5 (QO (b.dfO q k false)).length c5,?_,?_,?_⟩
     .rw[F,G];rfl
     .rw[F];exact bc.lg hz
     .rw[G];exact h5.lg hz
    |some o'=>
     rw[e4]at F;simp at F G;have ak:=same KN;rw[e4]at V Y;refine⟨0,⟨rfl,O1⟩,_,Y 0 _ rfl,?_⟩
     repeat apply R1
     refine⟨_,ab.sees3 (o:=0) rfl,q,⟨rfl,ae⟩,_,au,?_⟩;rw[hs]
     repeat apply R1
     conv=>whnf
     exact ak _ _ hKN (by rw[F,e4]) G
   |false=>
    rw[hs]at F G;cases e5:b.dfO q k false with
    |none=>
     rw[e5]at G;simp at F G;rw[e5]at V Y
     repeat apply R1
     refine⟨_,ab.sees3 (o:=0) rfl,q,⟨rfl,ae⟩,_,au,?_⟩;rw[hs];refine⟨1,⟨rfl,O1⟩,_,Y 1 _ rfl,?_⟩
     repeat apply R1
     refine⟨_,al 0 _ rfl,rfl,Wd (vs:=[.slice a o.length cap]) [Bd,D,_] V rfl Zz1 λ U7 K L X=>?_⟩;refine⟨1,⟨rfl,O1⟩,rfl,WN (i:=1) (v:=.bool true) [Bd,D] X (by show 1<2;omega) rfl λ U8 W Z ai=>?_⟩;have hz:U6.frz.lg U8.frz:=⟨λ x o hx=>by show U8.I x=_;rw[W,K];exact hx,⟨[],rfl⟩,Z.trans L⟩;have af:∀x o,U₀.I x=some o->U8.I x=some o:=λ x o hx=>by rw[W,K];exact E.imm x o hx
     have am:U8.tok=U₀.tok:=by rw[Z,L];exact E.tok
     conv=>whnf
     rw[Qa.on_of (ai:U8.M=Bd::D::(.obj b8 (.cells #[.bool (b.dfO q k true).isSome,.bool true] 125 (0,0))::.obj b5 (.cells #[.slice a o.length cap] 29 (0,0))::.obj b4 (.cells #[.slice a4 (QO (b.dfO q k true)).length c4] 29 (0,0))::U.M))];refine hKN _ _ _ ⟨af,Zz3,am⟩ ⟨⟨λ x o h=>af x o (hl.imm x o h),Zz3,am.trans hl.tok⟩,.slice a4 (QO (b.dfO q k true)).length c4,.slice a o.length cap,?_,?_,?_⟩
     .rw[F,G];rfl
     .rw[F];exact h4.lg hz
     .rw[G];exact bc.lg hz
    |some o'=>
     rw[e5]at G;simp at F G;have ak:=same KN;rw[e5]at V Y
     repeat apply R1
     refine⟨_,ab.sees3 (o:=0) rfl,q,⟨rfl,ae⟩,_,au,?_⟩;rw[hs];refine⟨1,⟨rfl,O1⟩,_,Y 1 _ rfl,?_⟩
     repeat apply R1
     conv=>whnf
     exact ak _ _ hKN F (by rw[G,e5])
  .rintro d l OA U3' ⟨hl,v4,v5,hM,h4,h5⟩;obtain⟨a4,c4,rfl,h4⟩:=h4;obtain⟨a5,c5,rfl,h5⟩:=h5;have aa:(U3'.on (.obj l OA) (.obj d (.deferred (some [])))).M=[.obj l OA,.obj d (.deferred (some []))]++(.obj b8 (.cells #[.bool (b.dfO q b.all.length true).isSome,.bool (b.dfO q b.all.length false).isSome] 125 (0,0))::.obj b5 (.cells #[.slice a5 (QO (b.dfO q b.all.length false)).length c5] 29 (0,0))::.obj b4 (.cells #[.slice a4 (QO (b.dfO q b.all.length true)).length c4] 29 (0,0))::U.M):=by show _::_::U3'.M=_;rw[hM];rfl
   have h4:Jw (U3'.on (.obj l OA) (.obj d (.deferred (some [])))).frz (.slice a4 (QO (b.dfO q b.all.length true)).length c4) (QO (b.dfO q b.all.length true)):=⟨a4,c4,rfl,h4⟩;have h5:Jw (U3'.on (.obj l OA) (.obj d (.deferred (some [])))).frz (.slice a5 (QO (b.dfO q b.all.length false)).length c5) (QO (b.dfO q b.all.length false)):=⟨a5,c5,rfl,h5⟩;have az:U4.frz.lg (U3'.on (.obj l OA) (.obj d (.deferred (some [])))):=⟨hl.imm,Zz3,hl.tok⟩;generalize(U3'.on (.obj l OA) (.obj d (.deferred (some []))))=U5 at aa h4 h5 az ⊢;have e1:QO (b.dfO q b.all.length true)=(b.difS q true).map λ(k:Nat)=>(k:Int):=by unfold QO;rw[b.dfO_end]
   have e2:QO (b.dfO q b.all.length false)=(b.difS q false).map λ(k:Nat)=>(k:Int):=by unfold QO;rw[b.dfO_end]
   have bi:=Q9 (b:=b4) (vs:=[.slice a4 (QO (b.dfO q b.all.length true)).length c4]) [_,_,_,_] aa;have bj:=Q9 (b:=b5) (vs:=[.slice a5 (QO (b.dfO q b.all.length false)).length c5]) [_,_,_] aa;refine⟨λ U'=>U5.frz.lg U'/\U'.M=U5.M,λ U U'⟨a,b⟩H=>⟨Uf a H,H.own.trans b⟩,_,bi 0 _ rfl,.slice a5 (QO (b.dfO q b.all.length false)).length c5,λ U' H _=>⟨_,(bj 0 _ rfl).lg H.lg,rfl,_,.refl _,.refl _⟩,λ U' hG=>⟨_,Q9 [_,_,_] (hG.2.trans aa) 0 _ rfl,rfl,_,.refl _,.refl _⟩,?_⟩
   conv=>whnf
   intro U' H _;refine⟨⟨rfl,Yl (vs:=[.slice a4 (QO (b.dfO q b.all.length true)).length c4]) [_,_,_,_] (H.own.trans aa) rfl Zz1 ⟨rfl,_,.refl _,⟨⟨λ b o h=>H.imm b o h,Zz3,H.tok⟩,aa.symm⟩⟩⟩,λ U'' hG=>?_⟩;obtain⟨ac,ah⟩:=hG;have ah:=ah.trans aa;refine⟨rfl,Wd (vs:=[.slice a5 (QO (b.dfO q b.all.length false)).length c5]) [_,_,_] ah rfl Zz1 λ U7 K L X=>?_⟩;have hz:U5.frz.lg U7.frz:=⟨λ x o hx=>by show U7.I x=_;rw[K];exact ac.imm x o hx,⟨[],rfl⟩,L.trans ac.tok⟩;refine⟨[.obj l OA,.obj d (.deferred none)]++(.obj b8 (.cells #[.bool (b.dfO q b.all.length true).isSome,.bool (b.dfO q b.all.length false).isSome] 125 (0,0))::.obj b5 (.cells #[.slice a5 (QO (b.dfO q b.all.length false)).length c5] 29 (0,0))::.obj b4 (.cells #[.slice a4 (QO (b.dfO q b.all.length true)).length c4] 29 (0,0))::U.M),by rw[X];exact .there .here,?_⟩;refine⟨_,Q9 [_,_,_,_] rfl 0 _ rfl,?_⟩;refine⟨_,Q9 [_,_,_] rfl 0 _ rfl,?_⟩;refine⟨⟨_,_,rfl,?_,?_⟩,⟨λ x o hx=>?_,⟨[_,_,_,_,_],rfl⟩,?_⟩⟩
   .rw[<- e1];exact h4.lg hz
   .rw[<- e2];exact h5.lg hz
   .show U7.I x=_;rw[K];exact ac.imm x o (az.imm x o (aw.imm x o hx))
   .show U7.tok=_;rw[L];exact ac.tok.trans (az.tok.trans a0)
  .exact λ _ _ _ _ _ h=>h.elim
  .exact λ _ _ _ _ h=>h.elim
 .rw[if_neg hF,if_neg hF,if_neg hF]
  conv=>whnf
  intro b7 aq;refine⟨_,.refl _,rfl,Zv (vs:=[.nl,.nl]) aq rfl Zz1 λ U3 P a8=>?_⟩
  have a6:U3.M=[.obj b5 (.cells #[.nl] 29 (0,0))]++.obj b4 (.cells #[.nl] 29 (0,0))::U.M:=by
   rw[P.own];show _::_::U2.M=_;rw[f.own];rfl
  repeat apply R1
  conv=>whnf
  apply Qg<;>intro hc
  .refine⟨rfl,Wd (vs:=[.nl]) [_] a6 rfl Zz1 λ U4 a2 a0 ay=>?_⟩;refine⟨rfl,Wd (vs:=[.nl]) [] ay rfl Zz1 λ U5 a3 bd ag=>?_⟩;refine⟨_,Q9 [_] ag 0 _ rfl,_,Q9 [] ag 0 _ rfl,⟨_,_,rfl,.nil,.nil⟩,⟨λ x o hx=>?_,⟨[_,_],ag⟩,?_⟩⟩
   .rw[a3,a2];exact P.imm x o (N.imm x o (f.imm x o hx))
   .rw[bd,a0];exact P.tok.trans (N.tok.trans f.tok)
  .exact absurd (by simpa using hc) hF
variable{K:Value->Qa T->Prop}{w:TypeInfo}{x y:Operand}
section
variable{f:Fm}
def Nu(W:P.underlying k=some (.slice e))(hi:P.info? e=some w)(Y:w.zero=some z)(M:z.cells=#[z])(I:w.size=1)(F:w.bytes<=64)
  (hx:Zf f x=.int .i64 0) (hy:Zf f y=.int .i64 n) (V:n<=1048576) (h:∀b,U.free b->K (.slice (some ⟨b,0,none⟩) 0 n) (U.put b (.cells (replicate n z).toArray e))) :
  OX d (.rw (.makeSlice k x y) cap) f K U:=by
 intro a' ha;simp only[execOp,ha,hx,hy];refine rq ?_;unfold Instr.makeSlice;have X:IntKind.wrap .i64 (n:Int)=n:=Gl I1;have L:IntKind.wrap .i64 (0:Int)=0:=D1
 simp only[Qd,Ze W,asInt,asIntOf,Qi,We hi,X,L]
 have T:(w.bytes:Int)*(n:Int)<=67108864:=by
  have:=Nat.mul_le_mul F V;have e:((w.bytes*n:Nat):Int)=(w.bytes:Int)*n:=S1
  omega
 have E:(2:Int)^48=281474976710656:=D1
 have H:(((decide ((n:Int)<0)|| decide ((w.bytes:Int)*(n:Int) > 2^48))|| decide ((0:Int)<0))|| decide ((0:Int) > n))=false:=by
  rw[E];simp only[Bool.or_eq_false_iff,decide_eq_false_iff_not];omega
 simp only[H,Bool.false_eq_true,if_false];rw[Qd];refine PV ?_;simp only[Qd,Jd hi,I,Nat.mul_one,Int.toNat_natCast]
 have fin:∀c:Array Value,(n≠0->c=z.cells)->Qq P (newRow e ((Array.range n).map (c[· % c.size]!))) (λ a U'=>∃N,Qv U' N/\K (.slice (some a) 0 n) N) U:=by
  intro c Q;refine Jh λ b hb=>⟨_,.refl _,?_⟩
  have:(Array.range n).map (c[· % c.size]!)=(replicate n z).toArray:=by
   apply Array.ext
   .simp
   .intro i h1 h2;have G:n≠0:=by simp at h1;omega
    have B:=Q G;rw[M]at B;subst B;simp[Nat.mod_one]
  rw[this];exact h b hb
 split
 .rename_i h0;exact fin #[] λ h=>absurd h0 h
 .simp only[Qd,X8 hi Y];exact fin _ λ _=>rfl
end
def JS.perm(f:JS U)(h:U.M.Perm M'):JS { U with M:=M' }:=λ r b=>f r (h.mem_iff.2 b)
section
variable{f:Fm}
def Jo.freeze{e n:Nat}{v:Value}{cs:List Value}{A R:List Qw}(F:JS U)(h:Jo e n v cs A)(w:U.M.Perm (A++R)) :
  ∃U'',Qv U U''/\U''.M=R/\U.frz.lg U''.frz/\∃a len cap,v=.slice a len cap/\cs.length=len*n/\Src U''.frz a cs/\(∀f,a=some f->f.spot=none):=by
 obtain⟨U'',G,b,a,len,cap,B,h1,h2,E,-⟩:=(h R).freeze (U:={ U with M:=R }) (U':={ U with M:=A++R }) (F.perm w) (λ _ _ h=>h) rfl;exact⟨U'',(Wp w).trans G,b.own,⟨b.imm,⟨[],rfl⟩,b.tok⟩,a,len,cap,B,h1,h2,E⟩
end
def Jo.blk(h:Jo e n z cs A)(f:cs≠[]):∃b c len cap,z=.slice (some ⟨b,0,none⟩) len cap/\cs.length=len*n/\len<=cap/\c.size=cap*n/\A=[.obj b (.cells c e (0,0))]/\∀(i:Nat)(x:Value),cs[i]?=some x->c[i]?=some x:=by
 rcases h []with⟨_,h1,_⟩|⟨b,c,len,cap,h1,h2,w,B,E,h5⟩
 .exact absurd h1 f
 .exact⟨b,c,len,cap,h1,h2,w,B,by simpa using E,h5⟩
def Jo.ofBlk{b len:Nat}(h1:cs.length=len*n)(h2:len<=cap)(f:c.size=cap*n)(h:∀(i:Nat)(x:Value),cs[i]?=some x->c[i]?=some x):Jo e n (.slice (some ⟨b,0,none⟩) len cap) cs [.obj b (.cells c e (0,0))]:=
 λ _=>.inr ⟨b,c,len,cap,rfl,h1,h2,f,rfl,h⟩
def Acc.room(h:Acc e n (.slice a i k) cs M M₀):i<=k:=by
 rcases h with⟨e,-,-⟩|⟨_,_,_,_,e,-,h,-⟩ <;> cases e
 .exact Nat.le_refl _
 .exact h
def jN:X7 prog 35 9 1:=.of K1
def gm:prog.underlying 35=some (.slice 9):=K1
def jO:X7 prog 42 29 1:=.of K1
def gn:prog.underlying 42=some (.slice 29):=K1
def Ie:X7 prog 36 44 4:=.of K1
def DR(a:Option Addr)(len cap:Nat)(l:List ByteArray)(hl:Q7 U a len 1 l λ s vs=>vs=[.string s])(T:len<=1000) :
  Qb S 79 #[.slice a len cap] (λ v U'=>(∃a' b cap',v=.slice a' b cap'/\b<=cap'/\Q7 U'.frz a' b 1 l λ s vs=>vs=[.string s])/\U.le U') U:=by
 have F:=hl.1
 have K:Qb S 79 #[.slice a len cap] (λ v U'=>Acc 9 1 v (l.map .string) U'.M U.M/\(∀x o,U.I x=some o->U'.I x=some o)/\U'.tok=U.tok) U:=by
  refine Qb.of (args:=[_]) To Qf S1 ?_
  conv=>whnf
  refine K6 gm rfl ?_
  conv=>whnf
  apply Qg<;>intro Q
  .have ha:a=none:=by simpa using Q
   subst ha
   have:l=[]:=by
    cases l with
    |nil=>rfl
    |cons x r=>
     obtain⟨f,_,_,_,h,_⟩:=Q7.at hl (show 0<len by simp at F;omega);cases h
   subst this
   repeat apply R1
   conv=>whnf
   exact⟨.nil,λ _ _ h=>h,rfl⟩
  .obtain⟨f,rfl⟩:∃f,a=some f:=by cases a with|none=>cases Q|some f=>exact⟨f,rfl⟩
   conv=>whnf
   intro P aa;refine⟨_,.refl _,?_⟩
   conv=>whnf
   refine Wn (v:=.slice (some ⟨P,0,none⟩) 0 0) (cs:=[]) (new:=l.map .string) (M₀:=U.M) jN rfl rfl .empty (.inr ⟨_,rfl,λ i v B=>?_⟩) (by simp[F]) Zz1 S3 λ v' M' E _=>?_
   .rw[getElem?_map]at B;cases hx:l[i]? with
    |none=>rw[hx]at B;cases B
    |some x=>
     rw[hx]at B;cases B;have hi:i<len:=by have:=(Zz4 hx);omega
     obtain⟨Y,x',vs,H,e,w,rfl,-,N⟩:=Q7.at hl hi;cases e;rw[hx]at H;cases H;have L:=N 0 _ rfl;obtain⟨bb,W,X⟩:=f;cases w;rw[Qo,Qo,Nat.mul_one,Nat.add_zero]at L;rw[Qo];exact L.lg (Z2 P _)
   obtain⟨ta,tl,tc,rfl,-,-⟩:=Acc.src (U:={ U with M:=M' }) E
   repeat apply R1
   conv=>whnf
   exact⟨by simpa using E,λ _ _ h=>h,rfl⟩
 refine K.sep λ v U' L⟨ha,Z,ht⟩=>?_;obtain⟨U'',k1,k2,a',b,cap',rfl,hl',G,w,_⟩:=ha.freeze L Z ht;refine⟨U'',k1,⟨a',b,cap',rfl,ha.room,?_⟩,k2⟩;refine⟨by simp at hl';exact hl',λ i x hx=>?_⟩;rcases G with⟨_,V⟩|⟨f,rfl,N⟩
 .rw[map_eq_nil_iff]at V;subst V;simp at hx
 .refine⟨f,[.string x],rfl,w f rfl,rfl,rfl,λ k v B=>?_⟩;cases k with
  |zero=>
   simp at B;subst B;have h1:=N i (.string x) (by simp[hx]);obtain⟨bb,W,X⟩:=f;cases w ⟨bb,W,X⟩ rfl;rw[Qo]at h1;rw[Qo,Qo,Nat.mul_one,Nat.add_zero];exact h1
  |succ k=>simp at B
variable{U':Qa T}{R':Value->Qa T->Prop}{α:Type}{g:List α}{L:α}
def Qb.okv(h:Qb d f args K U)(B:∀v U',(∃w,U'.ok w)->K v U'->∃U'',Qv U' U''/\R' v U''):Qb d f args R' U:=by
 delta Qb at h ⊢;intro Stop m c cs k;refine h Stop m c cs λ v U' r=>?_;by_cases b:∃w,U'.ok w
 .obtain⟨U'',h1,h2⟩:=B v U' b r;exact .shift h1 (k v _ h2)
 .exact .priv ⟨rfl,λ w ok=>absurd ⟨w,ok⟩ b⟩
def Ya(h:∃w,U.ok w):JS U:=let ⟨_,ok⟩:=h;ok.sep
def Iz(h:∃w,U.ok w)(k:Qv U U'):∃w,U'.ok w:=let ⟨w,ok⟩:=h;⟨w,(k.2 w ok).1⟩
structure ZK where
 ga:Option Addr
 gl:Nat
 gc:Nat
 v:Value
 F:List Qw
def Q_(p:Cs×ZK):List Value:=[.string p.1.nm,.int .i64 p.1.ag,.slice p.2.ga p.2.gl p.2.gc,p.2.v]
structure WZ(U:Qa T)(p:Cs×ZK):Prop where
 gs:Wx U.frz p.2.ga p.2.gl p.1.gs
 gl:p.2.gl<2^60
 af:Jo 3 1 p.2.v (p.1.af.map λ n=>.int .i64 n) p.2.F
 nm:p.1.nm.size<2^60
 al:p.1.af.length<=1000
def WZ.lg{p:Cs×ZK}(h:WZ U p)(k:U.frz.lg U'.frz):WZ U' p:=⟨h.gs.lg k,h.gl,h.af,h.nm,h.al⟩
def Qz{α β:Type}{f:α->List β}{n:Nat}(hf:∀a,(f a).length=n):∀l:List α,(l.flatMap f).length=l.length*n
 |[]=>S1
 |a::l=>by simp only[flatMap_cons,length_append,hf,Qz hf l,length_cons,Nat.succ_mul];omega
def Zz(p:Cs×ZK):(Q_ p).length=4:=rfl
def P7{f:α->List T}(hf:∀L,(f L).length=n)(h:g[i]?=some L)(w:e<n):(g.flatMap f)[i*n+e]?=(f L)[e]?:=by
 induction g generalizing i with
 |nil=>cases h
 |cons b g B=>
  cases i with
  |zero=>
   simp at h;subst h;rw[flatMap_cons,Nat.zero_mul,Nat.zero_add,getElem?_append_left (by rw[hf];exact w)]
  |succ i=>
   simp at h;rw[flatMap_cons,getElem?_append_right (by rw[hf,Nat.succ_mul];omega),hf];rw[<- B h];congr 1;rw[Nat.succ_mul];omega
structure QS(U:Qa T)(h:BH)(b:Bk)(M₀:List Qw):Prop where
 ex:∃(ps:List (Cs×ZK))(A:List Qw),ps.map (·.1)=b.cs/\(∀p∈ps,WZ U p)/\Jo 44 4 (.slice h.ca h.cl h.cc) (ps.flatMap Q_) A/\U.M.Perm (A++(ps.flatMap (·.2.F)++M₀))
 rs:Q7 U.frz h.ra h.rl 1 b.rs λ s vs=>vs=[.string s]
 rl:h.rl<2^60
 rn:∀s∈b.rs,s.size<2^60
 rc:h.rl<=h.rc
def QS.le{h:BH}{b:Bk}{M₀:List Qw}(k:QS U h b M₀)(hl:U.le U'):QS U' h b M₀:=
 let ⟨ps,A,h1,h2,h3,h4⟩:=k.ex
 ⟨⟨ps,A,h1,λ p hp=>(h2 p hp).lg hl.lg.frz2,h3,by rw[hl.own];exact h4⟩,k.rs.lg hl.lg.frz2 λ _ _ h=>h,k.rl,k.rn,k.rc⟩
def Lb:∀(ps:List (Cs×ZK)){U:Qa T}{R:List Qw},(∃w,U.ok w)->(∀p∈ps,WZ U p)->U.M.Perm (ps.flatMap (·.2.F)++R) ->
  ∃U'',Qv U U''/\U''.M.Perm R/\U.frz.lg U''.frz/\∀p∈ps,∃aa al ac,p.2.v=.slice aa al ac/\Z6 U''.frz aa al p.1.af/\al<2^60
 |[],U,R,_,_,E=>⟨U,.refl _,by simpa using E,⟨λ _ _ h=>h,⟨[],rfl⟩,rfl⟩,S1⟩
 |p::ps,U,R,H,b,E=>by
  have hp:=b p (mem_cons_self ..);rw[flatMap_cons,append_assoc]at E;obtain⟨N,I,Q,K,a,len,cap,e,hl,B,G⟩:=hp.af.freeze (Ya H) E;obtain⟨P,d,V,L,W⟩:=Lb ps (U:=N) (R:=R) (Iz H I) (λ q f=>(b q (mem_cons_of_mem _ f)).lg K) (by rw[Q]);refine⟨P,I.trans d,V,K.trans L,λ q f=>?_⟩;rcases mem_cons.1 f with rfl|f
  .simp at hl;subst hl;exact⟨a,_,cap,e,(KV B G).lg L,by have:=hp.al;omega⟩
  .exact W q f
def QS.freeze{h:BH}{b:Bk}{M₀:List Qw}(k:QS U h b M₀)(T:∃w,U.ok w)(ab:b.cs.length<=1000):∃U'',Qv U U''/\U''.M=M₀/\U.frz.lg U''.frz/\Zr U''.frz h b:=by
 obtain⟨ps,A,h1,h2,Y,Z⟩:=k.ex
 have N:U.M.Perm (ps.flatMap (·.2.F)++(A++M₀)):=Z.trans (by
  rw[<- append_assoc,<- append_assoc];exact Perm.append_right _ perm_append_comm)
 obtain⟨U1,V,k2,Q,k4⟩:=Lb ps T h2 N;obtain⟨W,m1,m2,L,a,len,cap,e,hl,I,H⟩:=Y.freeze (Ya (Iz T V)) k2;cases e;rw[Qz Zz]at hl;have G:b.cs.length=h.cl:=by rw[<- h1,length_map];omega
 refine⟨W,V.trans m1,m2,Q.trans L,k.rs.lg (Q.trans L) λ _ _ h=>h,⟨G,λ i c f=>?_⟩,k.rl,O1,k.rn,λ c f=>?_⟩
 .have hpi:∃p,ps[i]?=some p/\p.1=c:=by
   rw[<- h1,getElem?_map]at f;cases hx:ps[i]? with
   |none=>rw[hx]at f;cases f
   |some p=>rw[hx]at f;cases f;exact⟨p,rfl,rfl⟩
  obtain⟨p,hp,rfl⟩:=hpi;have E:=mem_of_getElem? hp;obtain⟨aa,al,ac,X,hi,P⟩:=k4 p E;rcases I with⟨_,hn⟩|⟨K,B,hr⟩
  .have:ps=[]:=by
    cases ps with
    |nil=>rfl
    |cons q r=>simp[Q_]at hn
   subst this;cases hp
  .refine⟨K,Q_ p,B,H K B,⟨p.2.ga,p.2.gl,p.2.gc,aa,al,ac,by rw[<- X];rfl,(h2 p E).gs.lg (Q.trans L),(h2 p E).gl,hi.lg L,P⟩,rfl,λ j v d=>?_⟩;have hj:j<4:=by have:=(Zz4 d);exact this
   have h5:=hr (i*4+j) v (by rw[P7 Zz hp hj];exact d);have hs:=H K B;obtain⟨bb,oo,ss⟩:=K;cases hs;rw[Qo]at h5;rw[Qo,Qo,Nat.add_assoc];exact h5
 .rw[<- h1]at f;obtain⟨p,hp,rfl⟩:=mem_map.1 f;exact(h2 p hp).nm
def xX:∃b,prog.info? 29=some b/\b.zero=some .nl/\b.size=1/\b.bytes<=64:=by
 have h1:(prog.info? 29).map (·.zero)=some (some .nl):=K1
 have h2:(prog.info? 29).map (·.size)=some 1:=K1
 have f:(prog.info? 29).map (λ i=>decide (i.bytes<=64))=some true:=K1
 cases h:prog.info? 29 with
 |none=>rw[h]at h1;cases h1
 |some b=>
  rw[h]at h1 h2 f;exact⟨b,rfl,Option.some.inj h1,Option.some.inj h2,by simpa using f⟩
def DM(c:Cs)(ga aa:Option Addr)(gl gc al ac:Nat)(hg:Wx U.frz ga gl c.gs)(br:gl<=1000)(ha:Z6 U.frz aa al c.af)(bl:al<=1000)(bb:∀g∈c.gs,g.length<=1000)(bd:c.nm.size<2^60) :
  Qb S 80 #[.agg #[.string c.nm,.int .i64 c.ag,.slice ga gl gc,.slice aa al ac]] (λ v U'=>(∃k:ZK,v=.agg (Q_ (c,k)).toArray/\WZ U' (c,k)/\U'.M=k.F++U.M)/\(∀x o,U.I x=some o->U'.I x=some o)/\U'.tok=U.tok) U:=by
 have bk:=hg.1;have bi:=ha.1
 have ay:Qb S 80 #[.agg #[.string c.nm,.int .i64 c.ag,.slice ga gl gc,.slice aa al ac]] (λ v U'=>∃g v' cells G F Y,v=.agg #[.string c.nm,.int .i64 c.ag,g,v']/\Jo 29 1 g cells G/\Xe U' cells c.gs/\Jo 3 1 v' (c.af.map λ n=>.int .i64 n) F/\U'.M=F++(G++(Y++U.M))/\(∀x o,U.I x=some o->U'.I x=some o)/\U'.tok=U.tok) U:=by
  refine Qb.of (args:=[_]) Tp Qf S1 ?_;obtain⟨bv,i1,i2,i3,i4⟩:=xX
  conv=>whnf
  intro K bo
  conv=>whnf
  intro L bp;refine⟨_,.refl _,?_⟩;have hM:((U.put K (.cells [.string c.nm,.int .i64 c.ag,.slice ga gl gc,.slice aa al ac].toArray 44)).put L (.cells #[.string ⟨#[]⟩,.int .i64 0,.nl,.nl] 44)).M=[.obj L (.cells #[.string ⟨#[]⟩,.int .i64 0,.nl,.nl] 44 (0,0))]++.cl K [.string c.nm,.int .i64 c.ag,.slice ga gl gc,.slice aa al ac] 44::U.M:=rfl;have bt:U.frz.lg ((U.put K (.cells [.string c.nm,.int .i64 c.ag,.slice ga gl gc,.slice aa al ac].toArray 44)).put L (.cells #[.string ⟨#[]⟩,.int .i64 0,.nl,.nl] 44)):=⟨λ _ _ h=>h,Zz3,rfl⟩;refine⟨_,(Q9 [_] hM).cell (i:=2) rfl,?_⟩
  conv=>whnf
  refine Nu (n:=gl) gn i1 i2 rfl i3 i4 rfl rfl O1 λ bg bm=>?_;have a2:(((U.put K (.cells [.string c.nm,.int .i64 c.ag,.slice ga gl gc,.slice aa al ac].toArray 44)).put L (.cells #[.string ⟨#[]⟩,.int .i64 0,.nl,.nl] 44)).put bg (.cells (replicate gl (Value.slice none 0 0)).toArray 29)).M=[.obj bg (.cells (replicate gl (Value.slice none 0 0)).toArray 29 (0,0)),.obj L (.cells #[.string ⟨#[]⟩,.int .i64 0,.nl,.nl] 44 (0,0))]++.cl K [.string c.nm,.int .i64 c.ag,.slice ga gl gc,.slice aa al ac] 44::U.M:=rfl;refine⟨_,(Q9 [_,_] a2).cell (i:=2) rfl,Nat×Value,λ y=>[(1,.pb K),(2,.pb L),(3,y.2),(11,.slice ga gl gc),(12,.int .i64 gl),(13,.int .i64 y.1)],
   λ y U'=>U.frz.lg U'/\(∃A cells,U'.M=A++([.obj L (.cells #[.string ⟨#[]⟩,.int .i64 0,.nl,.nl] 44 (0,0)),.cl K [.string c.nm,.int .i64 c.ag,.slice ga gl gc,.slice aa al ac] 44]++U.M)/\Jo 29 1 y.2 cells A/\Xe U' cells (c.gs.take y.1))/\y.1<=gl,λ y=>gl-y.1,(0,.slice (some ⟨bg,0,none⟩) 0 gl),T1,⟨⟨λ _ _ h=>h,Zz3,rfl⟩,⟨[_],[],rfl,.ofBlk rfl O1 S1 S1,⟨rfl,S1⟩⟩,O1⟩,?_⟩
  rintro⟨i,v⟩f U1⟨H,⟨A,cells,V,B,w⟩,hi⟩;simp only at B w hi;obtain⟨sa,sl,sc,rfl,bu⟩:=B.src;have bc:Z9 ((i:Int)+1):=I1
  have a9:=w.1;rw[length_take]at a9
  repeat apply R1
  conv=>whnf
  apply Qg<;>intro hc
  .have hlt:i<gl:=by simpa using hc
   obtain⟨ad,g,vs,hx,rfl,aq,⟨a',ax,cap',rfl,ak,bq⟩,-,be⟩:=Q7.at (Wx.lg hg H) hlt;have bs:=bb g (mem_of_getElem? hx);have bj:=ak.1;refine⟨ad,i,⟨rfl,rfl,hlt⟩,_,be 0 _ rfl,PB.any,(Qb.ints (e:=3) (DY a' ax cap' g ak O1)).mono ?_⟩;rintro _ U2⟨⟨ca,cc,rfl,a8⟩,a5⟩-
   conv=>whnf
   intro bn ba;refine Zl ba λ U3 aj W=>?_;have W:Zi U3 bn #[.slice ca g.length cc]:=W;have E:=a5.trans aj
   have X:Xe U3 (cells++[.slice ca g.length cc]) (c.gs.take (i+1)):=by
    rw[Wf hx];exact(w.lg E.lg.frz2).snoc (a8.lg aj.lg.frz2) O1
   conv=>whnf
   refine Wn (v:=.slice sa sl sc) (cs:=cells) (new:=[.slice ca g.length cc]) (M₀:=[.obj L (.cells #[.string ⟨#[]⟩,.int .i64 0,.nl,.nl] 44 (0,0)),.cl K [.string c.nm,.int .i64 c.ag,.slice (some ad) gl gc,.slice aa al ac] 44]++U.M) jO rfl rfl (by rw[E.own,V];exact B _) (.inr ⟨_,rfl,W.rd⟩) rfl Zz1 S3 λ v' M' a6 _=>?_;obtain⟨az,a1,Q⟩:=a6.split;obtain⟨ta,tl,tc,rfl,-⟩:=Q.src;have an:U.frz.lg ({ U3 with M:=M' }:Qa T):=⟨λ x o h=>E.imm x o (H.imm x o h),Zz3,E.tok.trans H.tok⟩;refine⟨bc,?_⟩
   conv=>whnf
   exact⟨rfl,(i+1,.slice ta tl tc),T1,⟨an,⟨az,_,a1,Q,X.lg ⟨λ _ _ h=>h,⟨[],rfl⟩,rfl⟩⟩,by show i+1<=gl;omega⟩,L1⟩
  .have hge:i=c.gs.length:=by simp at hc;omega
   subst hge;rw[take_length]at w;have ap:=Q9 (U:=U1) (b:=K) (e:=44) (M₀:=U.M) (vs:=[.string c.nm,.int .i64 c.ag,.slice ga gl gc,.slice aa al ac]) (A++[.obj L (.cells #[.string ⟨#[]⟩,.int .i64 0,.nl,.nl] 44 (0,0))]) (by rw[V];simp);refine⟨_,ap.cell (i:=3) rfl,PB.any,(DY aa al ac c.af (ha.lg H) O1).mono ?_⟩;rintro v U2⟨a7,Z,av⟩-;obtain⟨F,a4,hF⟩:=a7.split;obtain⟨fa,fl,fc,rfl,-⟩:=hF.src;have a3:U2.M=(F++A++[.obj L (.cells #[.string ⟨#[]⟩,.int .i64 0,.nl,.nl] 44 (0,0))])++.cl K [.string c.nm,.int .i64 c.ag,.slice ga gl gc,.slice aa al ac] 44::U.M:=by rw[a4,V];simp
   refine⟨rfl,WN (i:=2) (v:=.slice sa sl sc) _ a3 (by show 2<4;omega) rfl λ U3 a0 bf ai=>?_⟩;refine⟨rfl,WN (i:=3) (v:=.slice fa fl fc) _ ai (by show 3<4;omega) rfl λ U4 ab bh N=>?_⟩;have N:U4.M=(F++A++[.obj L (.cells #[.string ⟨#[]⟩,.int .i64 0,.nl,.nl] 44 (0,0))])++.cl K [.string c.nm,.int .i64 c.ag,.slice sa sl sc,.slice fa fl fc] 44::U.M:=N;have ah:U4.M=(F++A)++.obj L (.cells #[.string ⟨#[]⟩,.int .i64 0,.nl,.nl] 44 (0,0))::.cl K [.string c.nm,.int .i64 c.ag,.slice sa sl sc,.slice fa fl fc] 44::U.M:=by rw[N];simp
   refine⟨_,⟨rfl,Q9 _ N⟩,rfl,Wd (vs:=[.string c.nm,.int .i64 c.ag,.slice sa sl sc,.slice fa fl fc]) _ ah rfl Zz1 λ U5 ae aw P=>?_⟩;refine⟨_,⟨rfl,Q9 _ P⟩,?_⟩;have hz:U1.frz.lg U5.frz:=⟨λ x o h=>by show U5.I x=_;rw[ae,ab,a0];exact Z x o h,⟨[],rfl⟩,by show U5.tok=_;rw[aw,bh,bf];exact av⟩
   conv=>whnf
   exact⟨_,_,cells,A,F,[_,_],rfl,B,w.lg hz,hF,by rw[P];simp;exact⟨rfl,rfl⟩,λ x o h=>hz.imm x o (H.imm x o h),hz.tok.trans H.tok⟩
 refine ay.okv λ v U' hw⟨g,v',cells,G,F,Y,hv,hG,w,hF,hM,hI,ht⟩=>?_
 have hp:U'.M.Perm (G++(F++(Y++U.M))):=by
  rw[hM];exact perm_append_comm_assoc _ _ _
 obtain⟨U1,k1,k2,k3,a,len,cap,rfl,hl,au,aq⟩:=hG.freeze (Ya hw) hp;have am:c.gs.length=len:=by rw[<- w.1];omega
 have ao:=(w.lg k3).lists au aq;rw[am]at ao;refine⟨{ U1 with M:=F++U.M },k1.trans (Zx (by rw[k2];exact(Sublist.refl F).append (sublist_append_right Y U.M))),⟨⟨a,len,cap,v',F⟩,hv,⟨ao,by show len<_;omega,hF,bd,by show c.af.length<=_;omega⟩,rfl⟩,λ x o h=>k3.imm x o (hI x o h),k3.tok.trans ht⟩
variable{h:BH}
def Q7.case(k:Q7 U h.ca h.cl 4 b.cs (V3 U))(hi:i<h.cl) :
  ∃f c ga gl gc aa al ac,b.cs[i]?=some c/\h.ca=some f/\f.spot=none/\Je U (f.add (i*4)) [.string c.nm,.int .i64 c.ag,.slice ga gl gc,.slice aa al ac]/\Wx U ga gl c.gs/\gl<2^60/\Z6 U aa al c.af/\al<2^60/\c∈b.cs:=by
 obtain⟨f,c,vs,hx,w,E,⟨ga,gl,gc,aa,al,ac,rfl,h1,h2,F,G⟩,-,B⟩:=k.at hi;exact⟨f,c,ga,gl,gc,aa,al,ac,hx,w,E,B,h1,h2,F,G,mem_of_getElem? hx⟩
structure Bk.Sml(b:Bk):Prop where
 rs:b.rs.length<=1000
 cs:b.cs.length<=1000
 gs:∀c∈b.cs,c.gs.length<=1000/\(∀g∈c.gs,g.length<=1000)/\c.af.length<=1000
def N4(h:BH)(b:Bk)(hb:Zr U.frz h b)(hs:b.Sml) :
  Qb S 115 #[h.v] (λ v U'=>(∃Z:BH,v=Z.v/\QS U' Z b U.M)/\(∀x o,U.I x=some o->U'.I x=some o)/\U'.tok=U.tok) U:=by
 have b9:=hb.cs.1;have ck:=hb.rs.1;have cm:=hs.rs;have co:=hs.cs
 have bk:Qb S 115 #[h.v] (λ v U'=>∃(Z:BH)(ps:List (Cs×ZK))(A R Y:List Qw),v=Z.v/\ps.map (·.1)=b.cs/\(∀p∈ps,WZ U' p)/\Jo 44 4 (.slice Z.ca Z.cl Z.cc) (ps.flatMap Q_) A/\U'.M=A++(R++(Y++U.M))/\R.Perm (ps.flatMap (·.2.F))/\Q7 U'.frz Z.ra Z.rl 1 b.rs (λ s vs=>vs=[.string s])/\Z.rl<=Z.rc/\(∀x o,U.I x=some o->U'.I x=some o)/\U'.tok=U.tok) U:=by
  refine Qb.of (args:=[_]) FC Qf S1 ?_
  repeat apply R1
  conv=>whnf
  intro B U1 ax hB;have hB:Zi U1 B #[.slice h.ra h.rl h.rc,.slice h.ca h.cl h.cc]:=hB
  conv=>whnf
  intro Q ce;refine⟨_,.refl _,?_⟩;have a3:=Z2 (U:=U1) Q (.cells #[.nl,.nl] 92);refine⟨_,(hB.lg a3).sees3 (o:=0) rfl,To.any,(DR h.ra h.rl h.rc b.rs ((hb.rs.lg (ax.lg.frz2.trans a3.frz2) λ _ _ h=>h).lg Qr λ _ _ h=>h) O1).mono ?_⟩;rintro _ U2⟨⟨ra,rl,rc,rfl,P,an⟩,ba⟩-
  conv=>whnf
  intro K cf;refine⟨_,.refl _,rfl,HO (vs:=[.slice ra rl rc,.nl]) rfl Zz1 ?_⟩;have bh:=Z2 (U:=U2) K (.cells #[.slice ra rl rc,.nl] 38);have au:U1.lg U2:=a3.trans ba.lg;refine⟨_,(hB.lg (au.trans bh)).sees3 (o:=1) rfl,?_⟩;have W:U.frz.lg U2.frz:=ax.lg.frz2.trans au.frz2
  refine⟨Nat×Value,λ y=>[(1,.pb B),(2,.pb Q),(3,.pb K),(13,.slice h.ca h.cl h.cc),(14,.int .i64 h.cl),(15,.int .i64 y.1)],
   λ y U'=>U2.frz.lg U'/\(∃(ps:List (Cs×ZK))(A R:List Qw),ps.map (·.1)=b.cs.take y.1/\(∀p∈ps,WZ U' p)/\Jo 44 4 y.2 (ps.flatMap Q_) A/\R.Perm (ps.flatMap (·.2.F))/\U'.M=A++(R++([.cl K [.slice ra rl rc,y.2] 38,.obj Q (.cells #[.nl,.nl] 92 (0,0))]++U.M)))/\y.1<=h.cl,
   λ y=>h.cl-y.1,(0,.nl),T1,⟨⟨λ _ _ h=>h,Zz3,rfl⟩,⟨[],[],[],rfl,S1,.nil,.refl _,?_⟩,O1⟩,?_⟩
  .show _::U2.M=_;rw[ba.own];show _::_::U1.M=_;rw[ax.own];rfl
  rintro⟨i,v⟩f U3⟨L,⟨ps,A,R,N,am,G,hR,V⟩,hi⟩;simp only at N G V hi;obtain⟨sa,sl,sc,rfl,cp⟩:=G.src;have bu:Z9 ((i:Int)+1):=I1
  have bw:ps.length=i:=by
   have:=congrArg List.length N;rw[length_map,length_take]at this;omega
  repeat apply R1
  conv=>whnf
  apply Qg<;>intro hc
  .have hlt:i<h.cl:=by simpa using hc
   obtain⟨ad,c,ga,gl,gc,aa,al,ac,hx,br,b7,bx,hg,cj,ha,b8,av⟩:=hb.case hlt;obtain⟨cg,bt,ch⟩:=hs.gs c av;have b4:=hg.1;have b1:=ha.1;refine⟨ad,i,⟨br,rfl,hlt⟩,_,⟨rfl,(bx.lg W).lg L⟩,?_⟩
   conv=>whnf
   intro b5 bs;refine⟨_,.refl _,rfl,Zv (vs:=[.string c.nm,.int .i64 c.ag,.slice ga gl gc,.slice aa al ac]) bs rfl Zz1 λ U4 ay bq=>?_⟩;have ae:=ay.own.trans V;have a1:=L.trans ay.lg;have ap:U.frz.lg U4.frz:=W.trans a1.frz2;have bc:=hb.cn c av
   let Ub:Qa T:={ U4 with M:=R++([.cl K [.slice ra rl rc,.slice sa sl sc] 38,.obj Q (.cells #[.nl,.nl] 92 (0,0))]++U.M) }
   have bo:Ub.lg U4:=⟨λ _ _ h=>h,⟨A,ae⟩,rfl⟩;have bi:Je Ub ⟨K,0,none⟩ [.slice ra rl rc,.slice sa sl sc]:=Q9 R rfl;have bb:Zi Ub b5 #[.string c.nm,.int .i64 c.ag,.slice ga gl gc,.slice aa al ac]:=bq
   conv=>whnf
   intro b0 ai
   refine Io (mu:=[1005]) (ops:=GZ Tryz.f115 5) (id:=5) ai Ub bo [3,4] [[0,1,2,3,4]] [5,6,7] Qf
    (λ f' a5 U'=>a5=[]/\∃(E:Nat)(k:ZK),Xx f' [(1,.pb B),(2,.pb Q),(3,.pb K),(13,.slice h.ca h.cl h.cc),(14,.int .i64 h.cl),(15,.int .i64 i),(20,.slice sa sl sc),(23,.slice (some ⟨E,0,none⟩) 1 1)]/\WZ U' (c,k)/\Zi U' E (Q_ (c,k)).toArray/\U4.frz.lg U'/\U'.M=A++(k.F++(R++([.cl K [.slice ra rl rc,.slice sa sl sc] 38,.obj Q (.cells #[.nl,.nl] 92 (0,0))]++U.M)))) ?_ ?_
   .intro l hl;simp only[mem_cons,not_mem_nil,or_false]at hl;subst hl;refine⟨_,bi.cell (i:=1) rfl,_,⟨rfl,bb.rd⟩,?_⟩;refine⟨λ v U'=>∃k:ZK,v=.agg (Q_ (c,k)).toArray/\WZ U' (c,k)/\U4.frz.lg U'/\U'.M=A++(k.F++(R++([.cl K [.slice ra rl rc,.slice sa sl sc] 38,.obj Q (.cells #[.nl,.nl] 92 (0,0))]++U.M))),λ v U1 U2⟨k,e,hk,hl,V⟩w=>⟨k,e,hk.lg w.lg.frz2,hl.trans w.lg,w.own.trans V⟩,λ v U'⟨k,e,hk,hl,V⟩=>⟨hl.imm,⟨A++k.F,by rw[V];simp[Ub]⟩,hl.tok⟩,λ U' hC=>?_,λ v hv=>?_⟩
    .have w:=hC;refine⟨Tp.any,(DM c ga aa gl gc al ac (hg.lg (ap.trans w.lg.frz2)) O1 (ha.lg (ap.trans w.lg.frz2)) O1 bt bc).mono ?_⟩;rintro v U''⟨⟨k,e,hk,bn⟩,hI,ht⟩-
     have hp:U''.M.Perm (A++(k.F++(R++([.cl K [.slice ra rl rc,.slice sa sl sc] 38,.obj Q (.cells #[.nl,.nl] 92 (0,0))]++U.M)))):=by
      rw[bn,w.own,ae];exact perm_append_comm_assoc _ _ _
     exact⟨_,Wp hp,k,e,hk.lg ⟨λ _ _ h=>h,⟨[],rfl⟩,rfl⟩,⟨λ x o hx=>hI x o (w.imm x o hx),Zz3,ht.trans w.tok⟩,rfl⟩
    obtain⟨_,⟨cq,ct,cr,kv,kF⟩,rfl,bv,-⟩:=hv;obtain⟨a0,l0,c0,e0,-⟩:=bv.af.src;obtain rfl:kv=.slice a0 l0 c0:=e0;refine⟨λ v U'=>∃(E:Nat)(k':ZK),v=.slice (some ⟨E,0,none⟩) 1 1/\WZ U' (c,k')/\Zi U' E (Q_ (c,k')).toArray/\U4.frz.lg U'/\U'.M=A++(k'.F++(R++([.cl K [.slice ra rl rc,.slice sa sl sc] 38,.obj Q (.cells #[.nl,.nl] 92 (0,0))]++U.M))),λ v U1 U2⟨E,k,e,hk,H,hl,V⟩w=>⟨E,k,e,hk.lg w.lg.frz2,H.le w,hl.trans w.lg,w.own.trans V⟩,λ v U'⟨E,k,e,hk,H,hl,V⟩=>⟨hl.imm,⟨A++k.F,by rw[V];simp[Ub]⟩,hl.tok⟩,λ U' hC=>?_,λ v hv=>?_⟩
    .obtain⟨k',e,az,hl',ab⟩:=hC
     conv=>whnf
     intro E bd;refine Zl bd λ U'' w H=>⟨_,.refl _,E,k',rfl,az.lg w.lg.frz2,?_,hl'.trans w.lg,w.own.trans ab⟩;have e':=toArray_inj (Value.agg.inj e);rw[<- e'];exact H
    obtain⟨_,E,k2,rfl,-⟩:=hv
    conv=>whnf
    rintro U'⟨a4,k',e,az,H,hl',ab⟩;obtain rfl:E=a4:=by simpa using e
    exact⟨rfl,E,k',T1,az,H,hl',ab⟩
   rintro f' a5 U5⟨rfl,E,k,be,hk,H,a2,a9⟩;rw[<- be.ovr];clear be;have bg:(ps.flatMap Q_).length=i*4:=by rw[Qz Zz,bw]
   conv=>whnf
   refine Wn (v:=.slice sa sl sc) (cs:=ps.flatMap Q_) (new:=Q_ (c,k)) (M₀:=k.F++(R++([.cl K [.slice ra rl rc,.slice sa sl sc] 38,.obj Q (.cells #[.nl,.nl] 92 (0,0))]++U.M))) Ie rfl rfl (by rw[a9];exact G _) (.inr ⟨_,rfl,H.rd⟩) rfl (by
    have:=hk.af.src;obtain⟨a0,l0,c0,e0,-⟩:=this;simp only[Q_];rw[show k.v=.slice a0 l0 c0 from e0];simp[Value.single]) (by rw[bg,Zz];omega) λ v' M' bp _=>?_
   obtain⟨aw,ab,ao⟩:=bp.split;obtain⟨ta,tl,tc,rfl,-⟩:=ao.src;have bl:({ U5 with M:=M' }:Qa T).M=(aw++(k.F++R))++.cl K [.slice ra rl rc,.slice sa sl sc] 38::.obj Q (.cells #[.nl,.nl] 92 (0,0))::U.M:=by show M'=_;rw[ab];simp
   refine⟨rfl,WN (i:=1) (v:=.slice ta tl tc) _ bl (by show 1<2;omega) rfl λ U6 a7 bj ah=>?_⟩;have ah:U6.M=aw++((k.F++R)++([.cl K [.slice ra rl rc,.slice ta tl tc] 38,.obj Q (.cells #[.nl,.nl] 92 (0,0))]++U.M)):=by rw[ah];simp
   have aq:U5.frz.lg U6.frz:=⟨λ x o hx=>by show U6.I x=_;rw[a7];exact hx,⟨[],rfl⟩,bj⟩;have bf:U4.frz.lg U6.frz:=a2.frz2.trans aq;have aj:U3.frz.lg U6.frz:=ay.lg.frz2.trans bf
   conv=>whnf
   intro a' ak;refine⟨by rw[ak.size,ai.size],_,ak.get,?_⟩;rw[ak.ds];clear ak ai;refine⟨bu,rfl,(i+1,.slice ta tl tc),T1,⟨⟨λ x o hx=>aj.imm x o (L.imm x o hx),Zz3,aj.tok.trans L.tok⟩,⟨ps++[(c,k)],aw,k.F++R,?_,?_,?_,?_,ah⟩,by show i+1<=h.cl;omega⟩,L1⟩
   .rw[map_append,N,Wf hx];rfl
   .intro p hp;rcases mem_append.1 hp with hp|hp
    .exact(am p hp).lg aj
    .rw[mem_singleton.1 hp];exact hk.lg aq
   .rw[flatMap_append];simpa using ao
   .rw[flatMap_append];simp only[flatMap_cons,flatMap_nil,append_nil];exact(Perm.append_left k.F hR).trans perm_append_comm
  .have hge:i=b.cs.length:=by simp at hc;omega
   subst hge;rw[take_length]at N;have bm:U3.M=(A++R)++.cl K [.slice ra rl rc,.slice sa sl sc] 38::.obj Q (.cells #[.nl,.nl] 92 (0,0))::U.M:=by rw[V];simp
   have a8:U3.M=(A++R++[.cl K [.slice ra rl rc,.slice sa sl sc] 38])++.obj Q (.cells #[.nl,.nl] 92 (0,0))::U.M:=by rw[V];simp
   refine⟨_,⟨rfl,Q9 _ bm⟩,rfl,Wd (vs:=[.slice ra rl rc,.slice sa sl sc]) _ a8 rfl Zz1 λ U4 a6 bz ae=>?_⟩;have X:U3.frz.lg U4.frz:=⟨λ x o hx=>by show U4.I x=_;rw[a6];exact hx,⟨[],rfl⟩,bz⟩;refine⟨_,⟨rfl,Q9 _ ae⟩,?_⟩
   conv=>whnf
   exact⟨⟨ra,rl,rc,sa,sl,sc⟩,ps,A,R,[_,_],rfl,N,λ p hp=>(am p hp).lg X,G,by rw[ae];simp;exact⟨rfl,rfl⟩,hR,an.lg (L.frz2.trans X) λ _ _ h=>h,P,λ x o hx=>X.imm x o (L.imm x o (W.imm x o hx)),X.tok.trans (L.tok.trans W.tok)⟩
 refine bk.post λ v U'⟨Z,ps,A,R,Y,hv,N,am,G,V,hR,an,P,hI,ht⟩=>?_;have b6:=an.1;refine⟨{ U' with M:=A++(R++U.M) },Zx (by rw[V];exact(Sublist.refl A).append ((Sublist.refl R).append (sublist_append_right Y U.M))),⟨Z,hv,⟨⟨ps,A,N,λ p hp=>(am p hp).lg ⟨λ _ _ h=>h,⟨[],rfl⟩,rfl⟩,G,Perm.append_left A (Perm.append_right _ hR)⟩,an.lg ⟨λ _ _ h=>h,⟨[],rfl⟩,rfl⟩ λ _ _ h=>h,O1,hb.rn,P⟩⟩,hI,ht⟩
def Xh(l:List Int):Prop:=l.Pairwise (·<=·)
def po(h:Xc l' l'.length):Xh l':=by
 rw[Xh,pairwise_iff_getElem];intro i j hi f b;exact h i j _ _ b f (getElem?_eq_getElem hi) (getElem?_eq_getElem f)
def PH(n x:Int):∀l:List Int,x∈ZB n l↔x=n\/x∈l
 |[]=>by simp[ZB]
 |y::l=>by
  unfold ZB;split
  .simp only[mem_cons,PH n x l];constructor
   .rintro(h|h|h) <;> simp[h]
   .rintro(h|h|h) <;> simp[h]
  .simp only[mem_cons]
def Sf(n:Int):∀l:List Int,Xh l->Xh (ZB n l)
 |[],_=>by simp[ZB,Xh]
 |y::l,h=>by
  unfold Xh at h;rw[pairwise_cons]at h;unfold ZB;split
  .rename_i hlt;unfold Xh;rw[pairwise_cons];refine⟨λ x hx=>?_,Sf n l h.2⟩;rcases(PH n x l).1 hx with rfl|hx
   .omega
   .exact h.1 x hx
  .rename_i hge;unfold Xh;rw[pairwise_cons,pairwise_cons];refine⟨λ x hx=>?_,h⟩;rcases mem_cons.1 hx with rfl|hx
   .omega
   .have:=h.1 x hx;omega
def VV(n:Int):∀l:List Int,(ZB n l).Perm (l++[n])
 |[]=>by simp[ZB]
 |y::l=>by
  unfold ZB;split
  .exact(VV n l).cons y
  .exact(perm_append_comm (l₁:=[n]) (l₂:=y::l))
def pZ(h:Xh V)(h1:l'.Perm (V++[u]))(h2:Xc l' l'.length):l'=ZB u V:=
 Perm.eq_of_pairwise (le:=(·<=·)) (λ a b _ _ h1 h2=>O1) (po h2) (Sf u V h) (h1.trans (VV u V).symm)
def Dy(h:g[i]?=some L):∃X Y,g=X++L::Y/\X.length=i/\∀a',g.set i a'=X++a'::Y:=by
 obtain⟨b,rfl⟩:=List.getElem?_eq_some_iff.1 h;refine⟨g.take i,g.drop (i+1),?_,S3,λ a'=>?_⟩
 .rw[getElem_cons_drop,take_append_drop]
 .rw[set_eq_take_append_cons_drop,if_pos b]
def zO(h:BH)(b:Bk)(M₀:List Qw)(ho:QS U h b M₀)(k:Nat)(n:Int)(hk:k<b.cs.length)(ai:Xh (b.cas k).af)(bc:(b.cas k).af.length<=11) :
  Qb S 116 #[h.v,.agg #[.int .i64 k,.int .i64 n]] (λ _ U'=>QS U' h (b.sty ((k:Int),n)) M₀/\(∀x o,U.I x=some o->U'.I x=some o)/\U'.tok=U.tok) U:=by
 obtain⟨ps,A,aq,ao,a5,hM⟩:=ho.ex;have bm:k<ps.length:=by rw[<- aq,length_map]at hk;exact hk
 obtain⟨p,hp⟩:∃p,ps[k]?=some p:=⟨_,getElem?_eq_getElem bm⟩;obtain⟨X,Y,rfl,hX,be⟩:=Dy hp;obtain⟨c,Z,ab,aa,kv,W⟩:=p
 have ae:b.cas k=c:=by
  have:=congrArg (λ l=>l[k]?) aq;simp only[getElem?_map,hp]at this;simp[Bk.cas,getD_eq_getElem?_getD,<- this]
 rw[ae]at ai bc;have ap:=ao _ (mem_of_getElem? hp);obtain⟨a0,l0,c0,e0,bn⟩:=ap.af.src;obtain rfl:kv=.slice a0 l0 c0:=e0;have hF:Jo 3 1 (.slice a0 l0 c0) (c.af.map λ n=>.int .i64 n) W:=ap.af;obtain⟨cb,cc,aw,av,aj,K,a9,L,rfl,a8⟩:=a5.blk (by simp[Q_]);have bl:h.cl=aw:=by have:=Value.slice.inj aj;exact this.2.1
 have am:h.ca=some ⟨cb,0,none⟩:=by have:=Value.slice.inj aj;exact this.1
 have ad:h.cc=av:=by have:=Value.slice.inj aj;exact this.2.2
 have ah:k<h.cl:=by
  rw[Qz Zz]at K;omega
 have N:U.M.Perm (W++(.obj cb (.cells cc.toList.toArray 44 (0,0))::((X.flatMap (·.2.F)++Y.flatMap (·.2.F))++M₀))):=by
  refine hM.trans ?_;rw[flatMap_append,flatMap_cons];show Perm (.obj cb (.cells cc 44 (0,0))::(X.flatMap (·.2.F)++(W++Y.flatMap (·.2.F))++M₀)) _;refine Perm.trans (Perm.cons _ ?_) perm_middle.symm;rw[<- append_assoc W];refine Perm.append_right _ ?_;rw[<- append_assoc,<- append_assoc];exact Perm.append_right _ perm_append_comm
 have an:∀j,j<4->cc.toList[k*4+j]?=(Q_ (c,⟨Z,ab,aa,.slice a0 l0 c0,W⟩))[j]?:=by
  intro j hj;have h1:=P7 Zz hp hj;have h2:∃x,(Q_ (c,(⟨Z,ab,aa,.slice a0 l0 c0,W⟩:ZK)))[j]?=some x:=⟨_,getElem?_eq_getElem (by rw[Zz];exact hj)⟩;obtain⟨x,hx⟩:=h2;rw[hx]at h1 ⊢;rw[Array.getElem?_toList];exact a8 _ _ h1
 refine Qb.shift (Wp N) ?_;generalize au:(X.flatMap (·.2.F)++Y.flatMap (·.2.F))++M₀=rest at N ⊢;generalize a3:({ U with M:=W++(.obj cb (.cells cc.toList.toArray 44 (0,0))::rest) }:Qa T)=U₀;have az:U₀.M=W++(.obj cb (.cells cc.toList.toArray 44 (0,0))::rest):=by rw[<- a3]
 have bs:U.frz.lg U₀.frz:=by rw[<- a3];exact⟨λ _ _ h=>h,⟨[],rfl⟩,rfl⟩
 have bg:Qb S 116 #[h.v,.agg #[.int .i64 k,.int .i64 n]] (λ _ U'=>(∃v' P,Jo 3 1 v' ((ZB n c.af).map λ n=>.int .i64 n) P/\v'.single=true/\U'.M=P++(.obj cb (.cells (cc.setIfInBounds (k*4+3) v') 44 (0,0))::rest))/\(∀x o,U₀.I x=some o->U'.I x=some o)/\U'.tok=U₀.tok) U₀:=by
  refine Qb.of (args:=[_,_]) FD Qf S1 ?_
  repeat apply R1
  conv=>whnf
  intro B U1 al hB;have hB:Zi U1 B #[.slice h.ra h.rl h.rc,.slice h.ca h.cl h.cc]:=hB
  conv=>whnf
  intro b3 U2 Q H;have H:Zi U2 b3 #[.int .i64 k,.int .i64 n]:=H;have hB:=hB.le Q;have ac:U2.M=W++.obj cb (.cells cc.toList.toArray 44 (0,0))::rest:=(al.trans Q).own.trans az;have bo:=Q9 _ ac
  have bq:U2.sees (((Addr.mk cb 0 none).add (k*4)).add 3) (.slice a0 l0 c0):=by
   have:=bo (k*4+3) (.slice a0 l0 c0) (an 3 O1);rw[Qo]at this;rw[Qo,Qo,Nat.add_assoc];exact this
  refine⟨_,hB.sees3 (o:=1) rfl,_,H.sees3 (o:=0) rfl,⟨cb,0,none⟩,k,⟨am,rfl,ah⟩,_,bq,_,H.sees3 (o:=1) rfl,λ v U'=>∃w,v=.slice (some ⟨w,0,none⟩) 1 1/\Zi U' w #[.int .i64 n],λ v U1 U2⟨w,e,hb⟩bb=>⟨w,e,hb.le bb⟩,λ U' bb hC=>?_,λ v hv=>?_⟩
  .conv=>whnf
   intro w ba;exact Zl ba λ U3 G hb=>⟨_,.refl _,⟨w,rfl,hb⟩,G⟩
  obtain⟨_,-,-,w,rfl,-⟩:=hv
  conv=>whnf
  intro U3 G hC;obtain⟨-,bt,bh,a6⟩:=hC;cases bh;have a1:=G.own.trans ac;have bu:c.af.length=l0:=by simpa using bn
  conv=>whnf
  refine Wn (v:=.slice a0 l0 c0) (cs:=c.af.map λ n=>.int .i64 n) (new:=[.int .i64 n]) (M₀:=.obj cb (.cells cc.toList.toArray 44 (0,0))::rest) H4 rfl rfl (by rw[a1];exact hF _) (.inr ⟨_,rfl,a6.rd⟩) rfl Zz1 S3 λ v' M' V _=>?_;have V:Acc 3 1 v' ((c.af++[n]).map λ n=>.int .i64 n) M' (.obj cb (.cells cc.toList.toArray 44 (0,0))::rest):=by simpa using V
  obtain⟨ta,tc,rfl,-⟩:=SF (U:={ U3 with M:=M' }) V;refine⟨UX.any,(zN (U:={ U3 with M:=M' }) _ (c.af++[n]) _ V S3).mono ?_⟩;rintro _ U4⟨ax,br,l',bd,bp,a4⟩-;have hl':l'=ZB n c.af:=pZ ai bd (by rw[bd.length_eq];exact bp);subst hl';obtain⟨P,bk,ak⟩:=a4.split;have E:∀x o,U2.I x=some o->U4.I x=some o:=λ x o hx=>ax x o (G.imm x o hx);have bi:=hB.imI E;have a7:=H.imI E;refine⟨_,bi.sees3 (o:=1) rfl,_,a7.sees3 (o:=0) rfl,⟨cb,0,none⟩,k,⟨am,rfl,ah⟩,rfl,?_⟩;rw[show((Addr.mk cb 0 none).add (k*4)).add 3=(Addr.mk cb 0 none).add (k*4+3) by rw[Qo,Qo,Qo,Nat.add_assoc]];refine WN (i:=k*4+3) (v:=.slice ta (c.af++[n]).length tc) P bk (by simp;rw[L,<- ad];omega) rfl λ U5 ay bf a2=>?_;refine⟨⟨_,P,ak,rfl,by rw[a2]⟩,λ x o hx=>?_,?_⟩
  .rw[ay];exact E x o ((al.trans Q).imm x o hx)
  .rw[bf];exact br.trans (G.tok.trans (al.trans Q).tok)
 refine bg.mono ?_;rintro v U'⟨⟨v',P,ak,bv,bj⟩,hI,ht⟩;have hz:U.frz.lg U'.frz:=bs.trans ⟨hI,⟨[],rfl⟩,ht⟩;refine⟨⟨⟨X++({ c with af:=ZB n c.af },⟨Z,ab,aa,v',P⟩)::Y,[.obj cb (.cells (cc.setIfInBounds (k*4+3) v') 44 (0,0))],?_,?_,?_,?_⟩,ho.rs.lg hz λ _ _ h=>h,ho.rl,ho.rn,ho.rc⟩,hz.imm,hz.tok⟩
 .show _=(b.cs.set (k:Int).toNat { b.cas (k:Int).toNat with af:=ZB n (b.cas (k:Int).toNat).af });rw[Int.toNat_natCast,ae,<- aq,<- map_set (f:=λ p:Cs×ZK=>p.1) (a:=({ c with af:=ZB n c.af },(⟨Z,ab,aa,v',P⟩:ZK)))];rw[be]
 .intro q hq;rw[mem_append,mem_cons]at hq;rcases hq with hq|rfl|hq
  .exact(ao q (by simp[hq])).lg hz
  .have:=ap.lg hz
   exact⟨this.gs,this.gl,ak,this.nm,by
    show(ZB n c.af).length<=_;rw[(VV n c.af).length_eq];simp;omega⟩
  .exact(ao q (by simp[hq])).lg hz
 .rw[am,bl,ad];refine .ofBlk ?_ a9 (by simp[L]) λ i x hx=>?_
  .rw[Qz Zz]at K ⊢;simpa using K
  .have hlen1:(X.flatMap Q_).length=k*4:=by rw[Qz Zz,hX]
   rw[Array.getElem?_setIfInBounds];rw[flatMap_append,flatMap_cons]at hx;have ag:=a8 i;rw[flatMap_append,flatMap_cons]at ag;by_cases e:k*4+3=i
   .subst e;rw[if_pos rfl,if_pos (by rw[L];omega)];rw[getElem?_append_right O1,hlen1,Nat.add_sub_cancel_left,getElem?_append_left (by rw[Zz];omega)]at hx;exact hx
   .rw[if_neg e];refine ag x ?_;by_cases h1:i<k*4
    .rw[getElem?_append_left O1]at hx ⊢;exact hx
    .rw[getElem?_append_right O1,hlen1]at hx ⊢;by_cases h2:i-k*4<4
     .rw[getElem?_append_left (by rw[Zz];exact h2)]at hx ⊢;have:i-k*4=0\/i-k*4=1\/i-k*4=2:=O1
      rcases this with e|e|e <;> rw[e]at hx ⊢ <;> exact hx
     .rw[getElem?_append_right (by rw[Zz];omega)]at hx ⊢;exact hx
 .rw[bj,<- au,flatMap_append,flatMap_cons];show Perm _ (.obj cb _::(X.flatMap (·.2.F)++(P++Y.flatMap (·.2.F))++M₀));refine Perm.trans perm_middle (Perm.cons _ ?_);rw[<- append_assoc P];refine Perm.append_right _ ?_;rw[<- append_assoc,<- append_assoc];exact Perm.append_right _ perm_append_comm
variable{enc:α->List Value}
def JW(U:Qa T)(v:Value)(l:List Int):Prop:=∃a cap,v=.slice a l.length cap/\Z6 U a l.length l/\l.length<=cap
def JW.lg{v:Value}{l:List Int}(h:JW U v l)(hl:U.lg U'):JW U' v l:=let ⟨a,c,e,h,r⟩:=h;⟨a,c,e,h.lg hl,r⟩
def JW.nil:JW U .nl []:=⟨none,0,rfl,⟨rfl,λ i x h=>by simp at h⟩,Nat.le_refl _⟩
def JW.v{v:Value}{l:List Int}(h:JW U v l):Jw U v l:=let ⟨a,c,e,h,_⟩:=h;⟨a,c,e,h⟩
def GA(S:Sys P T)(g:FuncId)(first f:Array Value)(enc:α->List Value)(n:Nat)(ps:List (List α))(I:Nat->Qa T->Prop)(E:Qa T->Prop)(U₀:Qa T):Prop:=
 ∀(k:Nat)(p:List α)(a:Option Addr)(cap:Nat)(U:Qa T)(X h:List Qw),ps[k]?=some p->U₀.frz.lg U.frz->Q7 U.frz a p.length n p (λ x vs=>vs=enc x)->((∀w,a=some w->w.spot=none)/\p.length<=cap)->U.M=X++h->I k ⟨U.I,h,U.tok⟩ ->
  Qb S g (first.toList++[Value.slice a p.length cap]++f.toList).toArray (λ v U'=>(v=.bool false/\U.frz.lg U'.frz/\∃b,U'.M=X++b/\I (k+1) ⟨U'.I,b,U'.tok⟩)\/(v=.bool true/\∃B b,U'.M=B++b/\E ⟨U'.I,b,U'.tok⟩/\∀x o,U.I x=some o->U'.I x=some o)) U
def Src.lg'(h:Src U a cs)(k:U.lg U'):Src U' a cs:=h.imp id λ⟨b,e,r⟩=>⟨b,e,r.lg k⟩
def HG(B:∀x,(enc x).length=n)(h:Src U a (g.flatMap enc))(w:∀b,a=some b->b.spot=none)(f:0<n):Q7 U a g.length n g λ x vs=>vs=enc x:=by
 refine⟨rfl,λ i x hx=>?_⟩
 have F:(g.flatMap enc)≠[]:=by
  intro H;have:=Qz B g;rw[H]at this;have hl:=(Zz4 hx);have h2:0<g.length*n:=Nat.mul_pos O1 f;simp at this;omega
 rcases h with⟨_,E⟩|⟨b,rfl,K⟩
 .exact absurd E F
 .refine⟨b,enc x,rfl,w b rfl,rfl,B x,λ j v G=>?_⟩;have I:j<n:=by have:=(Zz4 G);rw[B]at this;exact this
  have h5:=K (i*n+j) v (by rw[P7 B hx I];exact G);obtain⟨bb,L,M⟩:=b;cases w ⟨bb,L,M⟩ rfl;rw[Qo]at h5;rw[Qo,Qo,Nat.add_assoc];exact h5
variable{ps:List (List (Int×Int))}{I:Nat->Qa T->Prop}{E:Qa T->Prop}{U₀:Qa T}
section
def K4:X7 prog 68 75 2:=.of K1
def gp:prog.underlying 68=some (.slice 75):=K1
def Zy(n:Int):List Value:=[.int .i64 n]
def encII(p:Int×Int):List Value:=[.int .i64 p.1,.int .i64 p.2]
def MG(a:Option Addr)(cap:Nat)(l:List (Int×Int))(W:Src U a (l.flatMap encII))(V:l.length<=1000) :
  Qb S 114 #[.slice a l.length cap] (λ v U'=>(∃a' cap',v=.slice a' l.length cap'/\Q7 U'.frz a' l.length 2 l (λ x vs=>vs=encII x)/\(∀b,a'=some b->b.spot=none)/\l.length<=cap')/\U.le U') U:=by
 have B:(l.flatMap encII).length=l.length*2:=Qz (f:=encII) (λ _=>rfl) l
 have Q:∀w∈l.flatMap encII,w.single=true:=by
  intro w hw;obtain⟨x,_,hx⟩:=mem_flatMap.1 hw;simp[encII]at hx
  first|(rcases hx with rfl|rfl <;> rfl)|(subst hx;rfl)
 have N:Qb S 114 #[.slice a l.length cap] (λ v U'=>Acc 75 2 v (l.flatMap encII) U'.M U.M/\(∀x o,U.I x=some o->U'.I x=some o)/\U'.tok=U.tok) U:=by
  refine Qb.of (args:=[_]) FB Qf S1 ?_
  conv=>whnf
  refine K6 gp rfl ?_
  conv=>whnf
  apply Qg<;>intro T
  .have ha:a=none:=by simpa using T
   subst ha
   have:l=[]:=by
    rcases W with⟨_,F⟩|⟨b,F,_⟩
    .cases l with
     |nil=>rfl
     |cons x r=>simp[encII]at F
    .cases F
   subst this
   repeat apply R1
   conv=>whnf
   exact⟨.nil,λ _ _ h=>h,rfl⟩
  .obtain⟨b,rfl⟩:∃b,a=some b:=by cases a with|none=>cases T|some b=>exact⟨b,rfl⟩
   conv=>whnf
   intro P Z;refine⟨_,.refl _,?_⟩
   have E:Src (U.put P (.cells #[] 75)) (some b) (l.flatMap encII):=by
    rcases W with⟨F,_⟩|⟨X,e,hr⟩
    .cases F
    .cases e;exact .inr ⟨_,rfl,hr.lg (Z2 P _)⟩
   conv=>whnf
   refine Wn (v:=.slice (some ⟨P,0,none⟩) 0 0) (cs:=[]) (new:=l.flatMap encII) (M₀:=U.M) K4 rfl rfl .empty E B Q (by rw[B,length_nil];omega) λ v' M' G _=>?_;obtain⟨ta,tl,tc,rfl,-,-⟩:=Acc.src (U:={ U with M:=M' }) G
   repeat apply R1
   conv=>whnf
   exact⟨by simpa using G,λ _ _ h=>h,rfl⟩
 refine N.sep λ v U' E⟨ha,Y,ht⟩=>?_;obtain⟨U'',k1,k2,a',L,cap',rfl,hl',K,H,_⟩:=ha.freeze E Y ht;have:l.length=L:=by have e:=B.symm.trans hl';omega
 subst this;exact⟨U'',k1,⟨a',cap',rfl,HG (enc:=encII) (n:=2) (λ _=>rfl) K H D1,H,ha.room⟩,k2⟩
structure GR(U:Qa T)(l:List (Int×Int))(many:Nat)(g:FuncId)(first capt:Array Value)(bm bt bl bn:Nat):Prop where
 m:Zi U bm #[.int .i64 many]
 t:Zi U bt #[.func (.func g) first capt]
 l:∃a cap,Zi U bl #[.slice a l.length cap]/\Q7 U.frz a l.length 2 l (λ x vs=>vs=encII x)
 n:Zi U bn #[.func (.func 113) #[] #[.pb bm,.pb bt,.pb bl,.pb bn]]
def GR.lg{U':Qa T}{l:List (Int×Int)}{many:Nat}{g:FuncId}{first b:Array Value}{bm w bl f:Nat}(h:GR U l many g first b bm w bl f)(k:U.frz.lg U'.frz):GR U' l many g first b bm w bl f:=
 ⟨h.m.imI k.imm,h.t.imI k.imm,let ⟨a,c,h1,h2⟩:=h.l;⟨a,c,h1.imI k.imm,h2.lg k λ _ _ h=>h⟩,h.n.imI k.imm⟩
def MF(a:Option Addr)(cap:Nat)(l:List Int)(W:Src U a (l.flatMap Zy))(V:l.length<=1000) :
  Qb S 34 #[.slice a l.length cap] (λ v U'=>(∃a' cap',v=.slice a' l.length cap'/\Q7 U'.frz a' l.length 1 l (λ x vs=>vs=Zy x)/\(∀b,a'=some b->b.spot=none)/\l.length<=cap')/\U.le U') U:=by
 have B:(l.flatMap Zy).length=l.length*1:=Qz (f:=Zy) (λ _=>rfl) l
 have Q:∀w∈l.flatMap Zy,w.single=true:=by
  intro w hw;obtain⟨x,_,hx⟩:=mem_flatMap.1 hw;simp[Zy]at hx
  first|(rcases hx with rfl|rfl <;> rfl)|(subst hx;rfl)
 have N:Qb S 34 #[.slice a l.length cap] (λ v U'=>Acc 3 1 v (l.flatMap Zy) U'.M U.M/\(∀x o,U.I x=some o->U'.I x=some o)/\U'.tok=U.tok) U:=by
  refine Qb.of (args:=[_]) PB Qf S1 ?_
  conv=>whnf
  refine K6 Px rfl ?_
  conv=>whnf
  apply Qg<;>intro T
  .have ha:a=none:=by simpa using T
   subst ha
   have:l=[]:=by
    rcases W with⟨_,F⟩|⟨b,F,_⟩
    .cases l with
     |nil=>rfl
     |cons x r=>simp[Zy]at F
    .cases F
   subst this
   repeat apply R1
   conv=>whnf
   exact⟨.nil,λ _ _ h=>h,rfl⟩
  .obtain⟨b,rfl⟩:∃b,a=some b:=by cases a with|none=>cases T|some b=>exact⟨b,rfl⟩
   conv=>whnf
   intro P Z;refine⟨_,.refl _,?_⟩
   have E:Src (U.put P (.cells #[] 3)) (some b) (l.flatMap Zy):=by
    rcases W with⟨F,_⟩|⟨X,e,hr⟩
    .cases F
    .cases e;exact .inr ⟨_,rfl,hr.lg (Z2 P _)⟩
   conv=>whnf
   refine Wn (v:=.slice (some ⟨P,0,none⟩) 0 0) (cs:=[]) (new:=l.flatMap Zy) (M₀:=U.M) H4 rfl rfl .empty E B Q (by rw[B,length_nil];omega) λ v' M' G _=>?_;obtain⟨ta,tl,tc,rfl,-,-⟩:=Acc.src (U:={ U with M:=M' }) G
   repeat apply R1
   conv=>whnf
   exact⟨by simpa using G,λ _ _ h=>h,rfl⟩
 refine N.sep λ v U' E⟨ha,Y,ht⟩=>?_;obtain⟨U'',k1,k2,a',L,cap',rfl,hl',K,H,_⟩:=ha.freeze E Y ht;have:l.length=L:=by have e:=B.symm.trans hl';omega
 subst this;exact⟨U'',k1,⟨a',cap',rfl,HG (enc:=Zy) (n:=1) (λ _=>rfl) K H D1,H,ha.room⟩,k2⟩
structure GQ(U:Qa T)(l:List Int)(many:Nat)(g:FuncId)(first capt:Array Value)(bm bt bl bn:Nat):Prop where
 m:Zi U bm #[.int .i64 many]
 t:Zi U bt #[.func (.func g) first capt]
 l:∃a cap,Zi U bl #[.slice a l.length cap]/\Q7 U.frz a l.length 1 l (λ x vs=>vs=Zy x)
 n:Zi U bn #[.func (.func 108) #[] #[.pb bm,.pb bt,.pb bl,.pb bn]]
def GQ.lg{U':Qa T}{l:List Int}{many:Nat}{g:FuncId}{first b:Array Value}{bm w bl f:Nat}(h:GQ U l many g first b bm w bl f)(k:U.frz.lg U'.frz):GQ U' l many g first b bm w bl f:=
 ⟨h.m.imI k.imm,h.t.imI k.imm,let ⟨a,c,h1,h2⟩:=h.l;⟨a,c,h1.imI k.imm,h2.lg k λ _ _ h=>h⟩,h.n.imI k.imm⟩
def zp(l:List (Int×Int))(hl:l.length<=1000)(many:Nat)(hm:many<=1000)(g:FuncId)(first ak:Array Value)(hg:(prog.funcs[g]?.any λ fd=>fd.body.isSome&&fd.name != "runtime.NumGoroutine")=true){bt bl bn:Nat}
  (a5:∀k N U2,N.le U2->I k N->I k U2) (bh:GA S g first ak encII 2 ps I E U₀) :
  ∀(m:Nat)(x:List (Int×Int))(i j:Nat)(xv:Value)(U:Qa T)(Z Mc:List Qw),x.length+m=many->i<=l.length->U₀.frz.lg U.frz->GR U l many g first ak r bt bl bn->Acc 75 2 xv (x.flatMap encII) U.M (Z++Mc)->(∀(i':Nat)q,(TM.parts (l.drop i) m)[i']?=some q->ps[j+i']?=some (x++q))->I j ⟨U.I,Mc,U.tok⟩ ->
   Qb S 113 #[xv,.int .i64 i,.pb r,.pb bt,.pb bl,.pb bn]
    (λ v U'=>(v=.bool false/\U.frz.lg U'.frz/\∃w,Acc 75 2 xv (x.flatMap encII) U'.M (Z++w)/\I (j+(TM.parts (l.drop i) m).length) ⟨U'.I,w,U'.tok⟩)\/(v=.bool true/\∃X' w,U'.M=X'++w/\E ⟨U'.I,w,U'.tok⟩/\∀x o,U.I x=some o->U'.I x=some o)) U:=by
 intro m
 induction m with
 |zero=>
  intro x i j xv U Z Mc bi hi h0 ab G W hI;obtain⟨sa,sl,sc,rfl,ao,a4⟩:=G.src;have ap:x.length=sl:=by have e:=(Qz (f:=encII) (n:=2) (λ _=>rfl) x).symm.trans ao;omega
  subst ap
  obtain⟨A,hA⟩:∃A,U.M=A++(Z++Mc):=by
   rcases G with⟨_,_,hM⟩|⟨b,c,len,cap,_,_,_,_,hM,_⟩
   .exact⟨[],hM⟩
   .exact⟨[_],hM⟩
  refine Qb.of (args:=[_,_,_,_,_,_]) VY Qf S1 ?_;refine⟨_,ab.m.sees3 (o:=0) rfl,?_⟩
  repeat apply R1
  conv=>whnf
  apply Qg<;>intro hc
  .refine⟨_,ab.t.sees3 (o:=0) rfl,λ v U'=>∃a' cap',v=.slice a' x.length cap'/\Q7 U'.frz a' x.length 2 x (λ x vs=>vs=encII x)/\(∀ad,a'=some ad->ad.spot=none)/\x.length<=cap',λ v N U2⟨a',c',e,h,s⟩F=>⟨a',c',e,h.lg F.lg.frz2 λ _ _ h=>h,s⟩,λ U' F hC=>?_,λ v hv=>?_⟩
   .refine⟨FB.any,(MG sa sc x (Src.lg' a4 F.lg) O1).mono ?_⟩;rintro v U''⟨hv,a0⟩-;exact⟨U'',.refl _,hv,a0⟩
   obtain⟨_,-,-,a',c',rfl,-⟩:=hv
   conv=>whnf
   intro N aa hC;obtain⟨-,a2,c2,e2,hr,hs⟩:=hC;cases e2;have a1:ps[j]?=some x:=by have:=W 0 [] (by rw[P9];rfl);simpa using this
   have av:N.M=(A++Z)++Mc:=by rw[aa.own,hA,append_assoc]
   refine⟨hg,(bh j x a' c' N (A++Z) Mc a1 (h0.trans aa.lg.frz2) hr hs av (a5 j ⟨U.I,Mc,U.tok⟩ ⟨N.I,Mc,N.tok⟩ ⟨aa.imm,rfl,aa.tok⟩ hI)).mono ?_⟩;rintro v U2 (⟨rfl,ah,w,Y,au⟩|⟨rfl,X',w,Y,hE,ag⟩) -
   .repeat apply R1
    conv=>whnf
    refine .inl ⟨rfl,aa.lg.frz2.trans ah,w,?_,by rw[P9];exact au⟩;rcases G with⟨e1,g2,hM⟩|⟨b,c,len,cap,e1,g1,g2,g3,hM,g5⟩
    .refine .inl ⟨e1,g2,?_⟩
     have:A=[]:=by
      rw[hM]at hA;exact self_eq_append_left.1 hA
     rw[Y,this];rfl
    .refine .inr ⟨b,c,len,cap,e1,g1,g2,g3,?_,g5⟩
     have:A=[.obj b (.cells c 75 (0,0))]:=by
      rw[hM]at hA;exact(append_cancel_right (show[Qw.obj b (.cells c 75 (0,0))]++(Z++Mc)=A++(Z++Mc) from hA)).symm
     rw[Y,this,append_assoc];rfl
   .repeat apply R1
    conv=>whnf
    exact .inr ⟨rfl,X',w,Y,hE,λ x o hx=>ag x o (aa.imm x o hx)⟩
  .simp at hc;omega
 |succ m ih=>
  intro x i j xv U Z Mc bi hi h0 ab G W hI;obtain⟨sa,sl,sc,rfl,ao,-⟩:=G.src;have ap:x.length=sl:=by have e:=(Qz (f:=encII) (n:=2) (λ _=>rfl) x).symm.trans ao;omega
  subst ap;have bc:(x.flatMap encII).length=x.length*2:=Qz (f:=encII) (λ _=>rfl) x;refine Qb.of (args:=[_,_,_,_,_,_]) VY Qf S1 ?_;refine⟨_,ab.m.sees3 (o:=0) rfl,?_⟩
  repeat apply R1
  conv=>whnf
  apply Qg<;>intro hc
  .simp at hc;omega
  clear hc
  refine⟨Nat×Nat,λ y=>[(0,.slice sa x.length sc),(2,.pb r),(3,.pb bt),(4,.pb bl),(5,.pb bn),(9,.int .i64 y.1)],
   λ y U'=>U.frz.lg U'.frz/\y.1<=l.length/\(∃w,Acc 75 2 (.slice sa x.length sc) (x.flatMap encII) U'.M (Z++w)/\I y.2 ⟨U'.I,w,U'.tok⟩)/\(∀(i':Nat)q,(TM.parts (l.drop y.1) (m+1))[i']?=some q->ps[y.2+i']?=some (x++q))/\y.2+(TM.parts (l.drop y.1) (m+1)).length=j+(TM.parts (l.drop i) (m+1)).length,
   λ y=>l.length-y.1,(i,j),T1,⟨⟨λ _ _ h=>h,⟨[],rfl⟩,rfl⟩,hi,⟨Mc,G,hI⟩,W,rfl⟩,?_⟩
  rintro⟨i,jj⟩f N⟨ah,hi,⟨w,G,hI⟩,W,Q⟩;simp only at hi W Q hI;have al:=ab.lg ah;obtain⟨la,lc,aw,an⟩:=al.l;have az:Z9 ((i:Int)+1):=I1
  refine⟨_,aw.sees3 (o:=0) rfl,?_⟩
  repeat apply R1
  conv=>whnf
  apply Qg<;>intro hc
  .have hlt:i<l.length:=by simpa using hc
   obtain⟨ad,e,vs,hx,rfl,bj,rfl,-,bg⟩:=Q7.at an hlt;have bf:=Ds (m:=m) hx;rw[bf]at W Q;rw[length_append,length_map]at Q;have be:Zi N.frz bn _:=al.n.imI λ _ _ h=>h;have bd:Zi N.frz bl _:=aw.imI λ _ _ h=>h
   conv=>whnf
   intro ac V
   refine Sx (mu:=[1006]) (ops:=GZ Tryz.f113 6) (id:=6) V [7,8] [[0,1,2,3,4,5,6,9,10,7,8]] [11] Qf
    (λ f' aq U'=>aq=[]/\∃(aj:Value)(Zn:List Qw),Xx f' [(0,.slice sa x.length sc),(2,.pb r),(3,.pb bt),(4,.pb bl),(5,.pb bn),(9,.int .i64 i),(26,.func (.func 113) #[] #[.pb r,.pb bt,.pb bl,.pb bn]),(34,aj),(36,.int .i64 ((i:Int)+1))]/\Acc 75 2 aj (x.flatMap encII++encII e) U'.M (Zn++(Z++w))/\(∀ae B,Acc 75 2 aj (x.flatMap encII++encII e) ae (Zn++B)->∃M3:List Qw,M3.Sublist ae/\Acc 75 2 (.slice sa x.length sc) (x.flatMap encII) M3 B)/\N.frz.lg U') ?_ ?_
   .intro l' hl';simp only[mem_cons,not_mem_nil,or_false]at hl';subst hl';refine⟨_,be.sees3 (o:=0) rfl,_,bd.sees3 (o:=0) rfl,ad,i,⟨rfl,rfl,hlt⟩,_,⟨rfl,bg⟩,az,λ v U'=>∃P,v=.slice (some ⟨P,0,none⟩) 1 1/\Zi U' P (encII e).toArray/\N.le U',λ v N U2⟨P,e1,hb,hl⟩F=>⟨P,e1,hb.le F,hl.trans F⟩,λ v U'⟨P,e1,hb,hl⟩=>⟨hl.imm,Zz3,hl.tok⟩,λ U' hC=>?_,λ v hv=>?_⟩
    .have F:=hC
     conv=>whnf
     intro P ax;exact Zl ax λ U3 ba hb=>⟨U3,.refl _,P,rfl,hb,Qa.le.trans F ba⟩
    obtain⟨_,P,rfl,-⟩:=hv;refine⟨λ v U'=>∃Zn,(∃a' l' c',v=.slice a' l' c')/\Acc 75 2 v (x.flatMap encII++encII e) U'.M (Zn++(Z++w))/\(∀ae B,Acc 75 2 v (x.flatMap encII++encII e) ae (Zn++B)->∃M3:List Qw,M3.Sublist ae/\Acc 75 2 (.slice sa x.length sc) (x.flatMap encII) M3 B)/\N.frz.lg U',λ v N U2⟨Zn,hs,h1,h2,h3⟩F=>⟨Zn,hs,by rw[F.own];exact h1,h2,h3.trans F.lg⟩,λ v U'⟨Zn,hs,h1,h2,h3⟩=>h3,λ U' hC=>?_,λ v hv=>?_⟩
    .obtain⟨b33',e33,hb33,F⟩:=hC;cases e33
     conv=>whnf
     refine Dv (v:=.slice sa x.length sc) (cs:=x.flatMap encII) (new:=encII e) (M₀:=Z++w) K4 rfl rfl (by rw[F.own];exact G) (.inr ⟨_,rfl,hb33.rd⟩) rfl (by simp[encII,Value.single]) (by rw[bc];simp[encII];omega) (by simp[encII]) λ v' M' Zn h1 h2=>?_;refine⟨_,.refl _,Zn,?_,h1,h2,⟨F.imm,Zz3,F.tok⟩⟩;obtain⟨ta,tl,tc,e1,-⟩:=Acc.src (U:={ U' with M:=M' }) h1;exact⟨ta,tl,tc,e1⟩
    obtain⟨_,Zn,⟨va,vl,vc,rfl⟩,-⟩:=hv
    conv=>whnf
    rintro U'⟨a8,-,h1,h2,h3⟩;exact⟨rfl,_,a8,T1,h1,h2,h3⟩
   rintro f' aq U2⟨rfl,aj,Zn,ay,af,a3,ai⟩;rw[<- ay.ovr];clear ay;obtain⟨va,vl,vc,rfl,-⟩:=af.src;have L:U.frz.lg U2.frz:=ah.trans ai.frz2;have a7:(x++[e]).flatMap encII=x.flatMap encII++encII e:=by rw[flatMap_append];simp
   have X:=ih (x++[e]) (i+1) jj (.slice va vl vc) U2 (Zn++Z) w (by rw[length_append];simp;omega) O1 (h0.trans L) (ab.lg L) (by rw[a7,append_assoc];exact af) (λ t q hq=>by
    have:=W t (e::q) (by
     rw[getElem?_append_left (by rw[length_map];exact(Zz4 hq)),getElem?_map,hq];rfl)
    rw[this];simp) (a5 jj ⟨N.I,w,N.tok⟩ ⟨U2.I,w,U2.tok⟩ ⟨ai.imm,rfl,ai.tok⟩ hI)
   have X:=X.post (R':=λ v U'=>(v=.bool false/\U2.frz.lg U'.frz/\∃H,Acc 75 2 (.slice sa x.length sc) (x.flatMap encII) U'.M (Z++H)/\I (jj+(TM.parts (l.drop (i+1)) m).length) ⟨U'.I,H,U'.tok⟩)\/(v=.bool true/\∃X' w,U'.M=X'++w/\E ⟨U'.I,w,U'.tok⟩/\∀x o,U2.I x=some o->U'.I x=some o)) λ v U' hv=>by
    rcases hv with⟨rfl,hl,H,ha,am⟩|h
    .rw[a7,append_assoc]at ha;obtain⟨M3,a6,bb⟩:=a3 _ _ ha;exact⟨_,Zx a6,.inl ⟨rfl,hl,H,bb,am⟩⟩
    .exact⟨U',.refl _,.inr h⟩
   refine⟨VY.any,X.mono ?_⟩;rintro v U3 (⟨rfl,hl,H,ha,am⟩|⟨rfl,X',H,a9,hE,ag⟩) -
   .conv=>whnf
    intro a' K;refine⟨by rw[K.size,V.size],_,K.get,?_⟩;rw[K.ds];clear K V;refine⟨az,rfl,(i+1,jj+(TM.parts (l.drop (i+1)) m).length),T1,⟨L.trans hl,by show i+1<=l.length;omega,⟨H,ha,am⟩,λ t q hq=>?_,by show jj+(TM.parts (l.drop (i+1)) m).length+(TM.parts (l.drop (i+1)) (m+1)).length=_;omega⟩,L1⟩;show ps[jj+(TM.parts (l.drop (i+1)) m).length+t]?=_;rw[Nat.add_assoc];refine W _ q ?_;rw[getElem?_append_right (by rw[length_map];omega),length_map,Nat.add_sub_cancel_left];exact hq
   .conv=>whnf
    intro a' K;refine⟨by rw[K.size,V.size],_,K.get,?_⟩;rw[K.ds];clear K V
    repeat apply R1
    conv=>whnf
    exact .inr ⟨rfl,X',H,a9,hE,λ x o hx=>ag x o (L.imm x o hx)⟩
  .have hge:l.length<=i:=by simpa using hc
   rw[IA hge,length_nil,Nat.add_zero]at Q
   repeat apply R1
   conv=>whnf
   exact .inl ⟨rfl,ah,w,G,by rw[<- Q];exact hI⟩
def zo(l:List Int)(hl:l.length<=1000)(many:Nat)(hm:many<=1000)(g:FuncId)(first ak:Array Value)(hg:(prog.funcs[g]?.any λ fd=>fd.body.isSome&&fd.name != "runtime.NumGoroutine")=true){bt bl bn:Nat}{ps:List (List Int)}
  (a5:∀k N U2,N.le U2->I k N->I k U2) (bh:GA S g first ak Zy 1 ps I E U₀) :
  ∀(m:Nat)(x:List Int)(i j:Nat)(xv:Value)(U:Qa T)(Z Mc:List Qw),x.length+m=many->i<=l.length->U₀.frz.lg U.frz->GQ U l many g first ak r bt bl bn->Acc 3 1 xv (x.flatMap Zy) U.M (Z++Mc)->(∀(i':Nat)q,(TM.parts (l.drop i) m)[i']?=some q->ps[j+i']?=some (x++q))->I j ⟨U.I,Mc,U.tok⟩ ->
   Qb S 108 #[xv,.int .i64 i,.pb r,.pb bt,.pb bl,.pb bn]
    (λ v U'=>(v=.bool false/\U.frz.lg U'.frz/\∃w,Acc 3 1 xv (x.flatMap Zy) U'.M (Z++w)/\I (j+(TM.parts (l.drop i) m).length) ⟨U'.I,w,U'.tok⟩)\/(v=.bool true/\∃X' w,U'.M=X'++w/\E ⟨U'.I,w,U'.tok⟩/\∀x o,U.I x=some o->U'.I x=some o)) U:=by
 intro m
 induction m with
 |zero=>
  intro x i j xv U Z Mc bi hi h0 ab G W hI;obtain⟨sa,sl,sc,rfl,ao,a4⟩:=G.src;have ap:x.length=sl:=by have e:=(Qz (f:=Zy) (n:=1) (λ _=>rfl) x).symm.trans ao;omega
  subst ap
  obtain⟨A,hA⟩:∃A,U.M=A++(Z++Mc):=by
   rcases G with⟨_,_,hM⟩|⟨b,c,len,cap,_,_,_,_,hM,_⟩
   .exact⟨[],hM⟩
   .exact⟨[_],hM⟩
  refine Qb.of (args:=[_,_,_,_,_,_]) VX Qf S1 ?_;refine⟨_,ab.m.sees3 (o:=0) rfl,?_⟩
  repeat apply R1
  conv=>whnf
  apply Qg<;>intro hc
  .refine⟨_,ab.t.sees3 (o:=0) rfl,λ v U'=>∃a' cap',v=.slice a' x.length cap'/\Q7 U'.frz a' x.length 1 x (λ x vs=>vs=Zy x)/\(∀ad,a'=some ad->ad.spot=none)/\x.length<=cap',λ v N U2⟨a',c',e,h,s⟩F=>⟨a',c',e,h.lg F.lg.frz2 λ _ _ h=>h,s⟩,λ U' F hC=>?_,λ v hv=>?_⟩
   .refine⟨PB.any,(MF sa sc x (Src.lg' a4 F.lg) O1).mono ?_⟩;rintro v U''⟨hv,a0⟩-;exact⟨U'',.refl _,hv,a0⟩
   obtain⟨_,-,-,a',c',rfl,-⟩:=hv
   conv=>whnf
   intro N aa hC;obtain⟨-,a2,c2,e2,hr,hs⟩:=hC;cases e2;have a1:ps[j]?=some x:=by have:=W 0 [] (by rw[P9];rfl);simpa using this
   have av:N.M=(A++Z)++Mc:=by rw[aa.own,hA,append_assoc]
   refine⟨hg,(bh j x a' c' N (A++Z) Mc a1 (h0.trans aa.lg.frz2) hr hs av (a5 j ⟨U.I,Mc,U.tok⟩ ⟨N.I,Mc,N.tok⟩ ⟨aa.imm,rfl,aa.tok⟩ hI)).mono ?_⟩;rintro v U2 (⟨rfl,ah,w,Y,au⟩|⟨rfl,X',w,Y,hE,ag⟩) -
   .repeat apply R1
    conv=>whnf
    refine .inl ⟨rfl,aa.lg.frz2.trans ah,w,?_,by rw[P9];exact au⟩;rcases G with⟨e1,g2,hM⟩|⟨b,c,len,cap,e1,g1,g2,g3,hM,g5⟩
    .refine .inl ⟨e1,g2,?_⟩
     have:A=[]:=by
      rw[hM]at hA;exact self_eq_append_left.1 hA
     rw[Y,this];rfl
    .refine .inr ⟨b,c,len,cap,e1,g1,g2,g3,?_,g5⟩
     have:A=[.obj b (.cells c 3 (0,0))]:=by
      rw[hM]at hA;exact(append_cancel_right (show[Qw.obj b (.cells c 3 (0,0))]++(Z++Mc)=A++(Z++Mc) from hA)).symm
     rw[Y,this,append_assoc];rfl
   .repeat apply R1
    conv=>whnf
    exact .inr ⟨rfl,X',w,Y,hE,λ x o hx=>ag x o (aa.imm x o hx)⟩
  .simp at hc;omega
 |succ m ih=>
  intro x i j xv U Z Mc bi hi h0 ab G W hI;obtain⟨sa,sl,sc,rfl,ao,-⟩:=G.src;have ap:x.length=sl:=by have e:=(Qz (f:=Zy) (n:=1) (λ _=>rfl) x).symm.trans ao;omega
  subst ap;have bc:(x.flatMap Zy).length=x.length*1:=Qz (f:=Zy) (λ _=>rfl) x;refine Qb.of (args:=[_,_,_,_,_,_]) VX Qf S1 ?_;refine⟨_,ab.m.sees3 (o:=0) rfl,?_⟩
  repeat apply R1
  conv=>whnf
  apply Qg<;>intro hc
  .simp at hc;omega
  clear hc
  refine⟨Nat×Nat,λ y=>[(0,.slice sa x.length sc),(2,.pb r),(3,.pb bt),(4,.pb bl),(5,.pb bn),(9,.int .i64 y.1)],
   λ y U'=>U.frz.lg U'.frz/\y.1<=l.length/\(∃w,Acc 3 1 (.slice sa x.length sc) (x.flatMap Zy) U'.M (Z++w)/\I y.2 ⟨U'.I,w,U'.tok⟩)/\(∀(i':Nat)q,(TM.parts (l.drop y.1) (m+1))[i']?=some q->ps[y.2+i']?=some (x++q))/\y.2+(TM.parts (l.drop y.1) (m+1)).length=j+(TM.parts (l.drop i) (m+1)).length,
   λ y=>l.length-y.1,(i,j),T1,⟨⟨λ _ _ h=>h,⟨[],rfl⟩,rfl⟩,hi,⟨Mc,G,hI⟩,W,rfl⟩,?_⟩
  rintro⟨i,jj⟩f N⟨ah,hi,⟨w,G,hI⟩,W,Q⟩;simp only at hi W Q hI;have al:=ab.lg ah;obtain⟨la,lc,aw,an⟩:=al.l;have az:Z9 ((i:Int)+1):=I1
  refine⟨_,aw.sees3 (o:=0) rfl,?_⟩
  repeat apply R1
  conv=>whnf
  apply Qg<;>intro hc
  .have hlt:i<l.length:=by simpa using hc
   obtain⟨ad,e,vs,hx,rfl,bj,rfl,-,bg⟩:=Q7.at an hlt;have bf:=Ds (m:=m) hx;rw[bf]at W Q;rw[length_append,length_map]at Q;have be:Zi N.frz bn _:=al.n.imI λ _ _ h=>h;have bd:Zi N.frz bl _:=aw.imI λ _ _ h=>h
   conv=>whnf
   intro ac V
   refine Sx (mu:=[1006]) (ops:=GZ Tryz.f108 6) (id:=6) V [7,8] [[0,1,2,3,4,5,6,9,10,7,8]] [11] Qf
    (λ f' aq U'=>aq=[]/\∃(aj:Value)(Zn:List Qw),Xx f' [(0,.slice sa x.length sc),(2,.pb r),(3,.pb bt),(4,.pb bl),(5,.pb bn),(9,.int .i64 i),(26,.func (.func 108) #[] #[.pb r,.pb bt,.pb bl,.pb bn]),(34,aj),(36,.int .i64 ((i:Int)+1))]/\Acc 3 1 aj (x.flatMap Zy++Zy e) U'.M (Zn++(Z++w))/\(∀ae B,Acc 3 1 aj (x.flatMap Zy++Zy e) ae (Zn++B)->∃M3:List Qw,M3.Sublist ae/\Acc 3 1 (.slice sa x.length sc) (x.flatMap Zy) M3 B)/\N.frz.lg U') ?_ ?_
   .intro l' hl';simp only[mem_cons,not_mem_nil,or_false]at hl';subst hl';refine⟨_,be.sees3 (o:=0) rfl,_,bd.sees3 (o:=0) rfl,ad,i,⟨rfl,rfl,hlt⟩,_,bg 0 _ rfl,az,λ v U'=>∃P,v=.slice (some ⟨P,0,none⟩) 1 1/\Zi U' P (Zy e).toArray/\N.le U',λ v N U2⟨P,e1,hb,hl⟩F=>⟨P,e1,hb.le F,hl.trans F⟩,λ v U'⟨P,e1,hb,hl⟩=>⟨hl.imm,Zz3,hl.tok⟩,λ U' hC=>?_,λ v hv=>?_⟩
    .have F:=hC
     conv=>whnf
     intro P ax;exact Zl ax λ U3 ba hb=>⟨U3,.refl _,P,rfl,hb,Qa.le.trans F ba⟩
    obtain⟨_,P,rfl,-⟩:=hv;refine⟨λ v U'=>∃Zn,(∃a' l' c',v=.slice a' l' c')/\Acc 3 1 v (x.flatMap Zy++Zy e) U'.M (Zn++(Z++w))/\(∀ae B,Acc 3 1 v (x.flatMap Zy++Zy e) ae (Zn++B)->∃M3:List Qw,M3.Sublist ae/\Acc 3 1 (.slice sa x.length sc) (x.flatMap Zy) M3 B)/\N.frz.lg U',λ v N U2⟨Zn,hs,h1,h2,h3⟩F=>⟨Zn,hs,by rw[F.own];exact h1,h2,h3.trans F.lg⟩,λ v U'⟨Zn,hs,h1,h2,h3⟩=>h3,λ U' hC=>?_,λ v hv=>?_⟩
    .obtain⟨b33',e33,hb33,F⟩:=hC;cases e33
     conv=>whnf
     refine Dv (v:=.slice sa x.length sc) (cs:=x.flatMap Zy) (new:=Zy e) (M₀:=Z++w) H4 rfl rfl (by rw[F.own];exact G) (.inr ⟨_,rfl,hb33.rd⟩) rfl (by simp[Zy,Value.single]) (by rw[bc];simp[Zy];omega) (by simp[Zy]) λ v' M' Zn h1 h2=>?_;refine⟨_,.refl _,Zn,?_,h1,h2,⟨F.imm,Zz3,F.tok⟩⟩;obtain⟨ta,tl,tc,e1,-⟩:=Acc.src (U:={ U' with M:=M' }) h1;exact⟨ta,tl,tc,e1⟩
    obtain⟨_,Zn,⟨va,vl,vc,rfl⟩,-⟩:=hv
    conv=>whnf
    rintro U'⟨a8,-,h1,h2,h3⟩;exact⟨rfl,_,a8,T1,h1,h2,h3⟩
   rintro f' aq U2⟨rfl,aj,Zn,ay,af,a3,ai⟩;rw[<- ay.ovr];clear ay;obtain⟨va,vl,vc,rfl,-⟩:=af.src;have L:U.frz.lg U2.frz:=ah.trans ai.frz2;have a7:(x++[e]).flatMap Zy=x.flatMap Zy++Zy e:=by rw[flatMap_append];simp
   have X:=ih (x++[e]) (i+1) jj (.slice va vl vc) U2 (Zn++Z) w (by rw[length_append];simp;omega) O1 (h0.trans L) (ab.lg L) (by rw[a7,append_assoc];exact af) (λ t q hq=>by
    have:=W t (e::q) (by
     rw[getElem?_append_left (by rw[length_map];exact(Zz4 hq)),getElem?_map,hq];rfl)
    rw[this];simp) (a5 jj ⟨N.I,w,N.tok⟩ ⟨U2.I,w,U2.tok⟩ ⟨ai.imm,rfl,ai.tok⟩ hI)
   have X:=X.post (R':=λ v U'=>(v=.bool false/\U2.frz.lg U'.frz/\∃H,Acc 3 1 (.slice sa x.length sc) (x.flatMap Zy) U'.M (Z++H)/\I (jj+(TM.parts (l.drop (i+1)) m).length) ⟨U'.I,H,U'.tok⟩)\/(v=.bool true/\∃X' w,U'.M=X'++w/\E ⟨U'.I,w,U'.tok⟩/\∀x o,U2.I x=some o->U'.I x=some o)) λ v U' hv=>by
    rcases hv with⟨rfl,hl,H,ha,am⟩|h
    .rw[a7,append_assoc]at ha;obtain⟨M3,a6,bb⟩:=a3 _ _ ha;exact⟨_,Zx a6,.inl ⟨rfl,hl,H,bb,am⟩⟩
    .exact⟨U',.refl _,.inr h⟩
   refine⟨VX.any,X.mono ?_⟩;rintro v U3 (⟨rfl,hl,H,ha,am⟩|⟨rfl,X',H,a9,hE,ag⟩) -
   .conv=>whnf
    intro a' K;refine⟨by rw[K.size,V.size],_,K.get,?_⟩;rw[K.ds];clear K V;refine⟨az,rfl,(i+1,jj+(TM.parts (l.drop (i+1)) m).length),T1,⟨L.trans hl,by show i+1<=l.length;omega,⟨H,ha,am⟩,λ t q hq=>?_,by show jj+(TM.parts (l.drop (i+1)) m).length+(TM.parts (l.drop (i+1)) (m+1)).length=_;omega⟩,L1⟩;show ps[jj+(TM.parts (l.drop (i+1)) m).length+t]?=_;rw[Nat.add_assoc];refine W _ q ?_;rw[getElem?_append_right (by rw[length_map];omega),length_map,Nat.add_sub_cancel_left];exact hq
   .conv=>whnf
    intro a' K;refine⟨by rw[K.size,V.size],_,K.get,?_⟩;rw[K.ds];clear K V
    repeat apply R1
    conv=>whnf
    exact .inr ⟨rfl,X',H,a9,hE,λ x o hx=>ag x o (L.imm x o hx)⟩
  .have hge:l.length<=i:=by simpa using hc
   rw[IA hge,length_nil,Nat.add_zero]at Q
   repeat apply R1
   conv=>whnf
   exact .inl ⟨rfl,ah,w,G,by rw[<- Q];exact hI⟩
