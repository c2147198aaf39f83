/- Lemmas. No conditions. -/
import Derived.Test.YtnjljnhoaafkiaaGreatDoorC04
set_option linter.all false
set_option maxRecDepth 100000
open List
open Go.Proofs.Tryz (prog)
namespace Go.TM
open Go.Proofs
variable{x y out:List Int}{t:WK}{tk:Qvl}{p:Int×Int}{n:Nat}{v:Value}{cs:List Value}{M M₀:List Qw}
def Qdb(s:Nat):Nat->List Int->List Int
 |_,[]=>[]
 |i,x::r=>if s.testBit i then x::Qdb s (i+1) r else Qdb s (i+1) r
def Zq7(s:Nat)(x:Int):∀(l:List Int)(i:Nat),Qdb s i (l++[x])=Qdb s i l++(if s.testBit (i+l.length)then[x]else[])
 |[],i=>by simp only[nil_append,Qdb,length_nil,Nat.add_zero]
 |a::l,i=>by
  simp only[cons_append,Qdb,Zq7 s x l (i+1),length_cons];rw[show i+1+l.length=i+(l.length+1) by omega];by_cases h:s.testBit i <;> simp[h]
def Zp2(s:Nat):∀(l:List Int)(i:Nat),(Qdb s i l).length<=l.length
 |[],i=>by simp[Qdb]
 |a::l,i=>by
  have:=Zp2 s l (i+1);simp only[Qdb];split <;> simp <;> omega
def WK.leftF(t:WK)(tk:Qvl)(x:List Int):List Int:=tk.b.filter λ y=>(t.reach tk x []).any λ p=>p.2==y
def Qje(many:Nat)(b:List Int->List Int)(a:List Int)(st:List Int×List Int)(s:Nat):List Int×List Int:=
 if(Qdb s 0 a).length+(b (Qdb s 0 a)).length=many/\(s=0\/(st.1=[]/\st.2=[])\/Qn8 (Qdb s 0 a) st.1<0)then(Qdb s 0 a,b (Qdb s 0 a))else st
def Zt4(many:Nat)(b:List Int->List Int)(a:List Int):List Int×List Int:=(range (2^a.length)).foldl (Qje many b a) ([],[])
def Asc(l:List Int):Prop:=l.Pairwise (· < ·)
def Zta:∀{l l':List Int},Asc l->Asc l'->(∀x,x∈l↔x∈l')->l=l'
 |[],[],_,_,_=>rfl
 |[],a::l',_,_,h=>absurd ((h a).2 (mem_cons_self ..)) S1
 |a::l,[],_,_,h=>absurd ((h a).1 (mem_cons_self ..)) S1
 |a::l,b::l',h1,h2,h=>by
  have f:=pairwise_cons.1 h1;have w:=pairwise_cons.1 h2
  have B:a=b:=by
   rcases mem_cons.1 ((h a).1 (mem_cons_self ..))with e|e
   .exact e
   .rcases mem_cons.1 ((h b).2 (mem_cons_self ..))with e'|e'
    .exact e'.symm
    .have:=f.1 b e';have:=w.1 a e;omega
  subst B;congr 1;refine Zta f.2 w.2 λ x=>⟨λ hx=>?_,λ hx=>?_⟩
  .rcases mem_cons.1 ((h x).1 (mem_cons_of_mem _ hx))with e|e
   .have:=f.1 x hx;omega
   .exact e
  .rcases mem_cons.1 ((h x).2 (mem_cons_of_mem _ hx))with e|e
   .have:=w.1 x hx;omega
   .exact e
def Asc.filter{l:List Int}(h:Asc l)(p:Int->Bool):Asc (l.filter p):=Pairwise.filter _ h
def Zu4(h:Xc x x.length):x.Pairwise (·<=·):=by
 rw[pairwise_iff_getElem];intro i j hi f b;exact h i j _ _ b f S1 S1
def Zrm:∀(l:List Int)(p:Option Int)(x:Int),x∈cpt p l->x∈l
 |[],_,_,h=>by simp[cpt]at h
 |a::l,p,x,h=>by
  simp only[cpt]at h;split at h
  .exact mem_cons_of_mem _ (Zrm l _ x h)
  .rcases mem_cons.1 h with h|h
   .rw[h];exact mem_cons_self ..
   .exact mem_cons_of_mem _ (Zrm l _ x h)
def Zpv:∀(l:List Int)(p:Option Int)(x:Int),x∈l->x∈cpt p l\/p=some x
 |[],_,_,h=>by simp at h
 |a::l,p,x,h=>by
  simp only[cpt];split
  .rename_i e;rcases mem_cons.1 h with h|h
   .subst h;exact .inr e
   .rcases Zpv l (some a) x h with h|h
    .exact .inl h
    .cases h;exact .inr e
  .rcases mem_cons.1 h with h|h
   .subst h;exact .inl (mem_cons_self ..)
   .rcases Zpv l (some a) x h with h|h
    .exact .inl (mem_cons_of_mem _ h)
    .cases h;exact .inl (mem_cons_self ..)
def Ztb:∀(l:List Int)(p:Option Int),l.Pairwise (·<=·)->(∀m,p=some m->∀x∈l,m<=x)->Asc (cpt p l)/\∀m,p=some m->∀x∈cpt p l,m<x
 |[],_,_,_=>⟨Pairwise.nil,λ _ _ x h=>by simp[cpt]at h⟩
 |a::l,p,h,hp=>by
  have f:=pairwise_cons.1 h;obtain⟨w,b⟩:=Ztb l (some a) f.2 (λ m e x hx=>by cases e;exact f.1 x hx);simp only[cpt];split
  .rename_i e;exact⟨w,λ m hm x hx=>by rw[e]at hm;cases hm;exact b a rfl x hx⟩
  .rename_i e;refine⟨pairwise_cons.2 ⟨λ x hx=>b a rfl x hx,w⟩,λ m hm x hx=>?_⟩;have ha:=hp m hm a (mem_cons_self ..);have B:m≠a:=λ e'=>e (by rw[hm,e']);rcases mem_cons.1 hx with rfl|hx
   .omega
   .have:=b a rfl x hx;omega
def WK.chk_asc{t:WK}{e:Int}:∀{l:List Int}{p:Option Int},t.chk e p l=0->Asc l/\∀m,p=some m->∀x∈l,m<x
 |[],_,_=>⟨Pairwise.nil,λ _ _ x h=>by simp at h⟩
 |a::l,p,h=>by
  rw[WK.chk_cons]at h;split at h
  .have key:t.chk e (some a) l=0->Asc (a::l):=λ h=>by
    obtain⟨f,w⟩:=WK.chk_asc h;exact pairwise_cons.2 ⟨λ x hx=>w a rfl x hx,f⟩
   cases p with
   |none=>exact⟨key h,λ m hm=>by cases hm⟩
   |some m=>
    simp only at h;split at h
    .cases h
    .rename_i hlt;have b:=key h;refine⟨b,λ B hm x hx=>?_⟩;cases hm;rcases mem_cons.1 hx with rfl|hx
     .omega
     .have:=(pairwise_cons.1 b).1 x hx;omega
  .cases h
def WK.reach_snd(h:p∈t.reach tk x y):p.1∈tk.a/\p.2∈tk.b:=by
 unfold WK.reach at h;obtain⟨one,h1,h2⟩:=mem_flatMap.1 h;unfold WK.reachRow at h2;obtain⟨two,f,rfl⟩:=mem_map.1 h2;exact⟨h1,(mem_filter.1 f).1⟩
def WK.left_eq(hb:Asc tk.b)(h:t.LeftOut tk x out):out=t.leftF tk x:=by
 obtain⟨l',hp,f,rfl⟩:=h;refine Zta (Ztb l' none (Zu4 f) (λ m hm=>by cases hm)).1 (hb.filter _) λ y=>?_;have hm:y∈l'↔∃p,p∈t.reach tk x []/\p.2=y:=by rw[hp.mem_iff,mem_map]
 constructor
 .intro hy;obtain⟨p,h1,rfl⟩:=hm.1 (Zrm _ _ _ hy);exact mem_filter.2 ⟨(WK.reach_snd h1).2,any_eq_true.2 ⟨p,h1,S1⟩⟩
 .intro hy;obtain⟨p,h1,h2⟩:=any_eq_true.1 (mem_filter.1 hy).2;rcases Zpv l' none y (hm.2 ⟨p,h1,by simpa using h2⟩)with h|h
  .exact h
  .cases h
def Zuo(s i:Nat)(E:s<2^32)(hi:i<64):IntKind.wrap .i64 (BitVec.ofInt (IntKind.bits .i64) ((s:Int).fdiv (2^(min (i:Int).toNat (IntKind.bits .i64))))&&&BitVec.ofInt (IntKind.bits .i64) 1).toNat=if s.testBit i then 1 else 0:=by
 show IntKind.wrap .i64 (BitVec.ofInt 64 ((s:Int).fdiv (2^(min (i:Int).toNat 64)))&&&BitVec.ofInt 64 1).toNat=_;have f:min (i:Int).toNat 64=i:=S3
 have w:(s:Int).fdiv (2^i)=((s / 2^i:Nat):Int):=by
  rw[Int.fdiv_eq_ediv_of_nonneg _ (by exact Int.pow_nonneg D1)];simp
 rw[f,w,BitVec.ofInt_natCast,show(BitVec.ofInt 64 1)=BitVec.ofNat 64 1 from rfl];have b:s / 2^i<2^64:=Nat.lt_of_le_of_lt (Nat.div_le_self ..) O1
 have B:(BitVec.ofNat 64 (s / 2^i)&&&BitVec.ofNat 64 1).toNat=s / 2^i % 2:=by
  rw[BitVec.toNat_and,BitVec.toNat_ofNat,BitVec.toNat_ofNat,Nat.mod_eq_of_lt b,show 1 % 2^64=1 from rfl,Nat.and_one_is_mod]
 rw[B,Gl I1,Nat.testBit_eq_decide_div_mod_eq];by_cases h:s / 2^i % 2=1
 .simp[h]
 .have:s / 2^i % 2=0:=O1
  simp[this]
def Zut(n:Nat)(h:n<=32):IntKind.wrap .i64 (1*2^(min (n:Int).toNat (IntKind.bits .i64)))=((2^n:Nat):Int):=by
 show IntKind.wrap .i64 (1*2^(min (n:Int).toNat 64))=_;have b:min (n:Int).toNat 64=n:=S3
 rw[b,Int.one_mul];have h2:2^n<=2^32:=Nat.pow_le_pow_right D1 h;have f:((2:Int)^n)=((2^n:Nat):Int):=S1
 rw[f];generalize 2^n=m at h2 ⊢;exact Gl I1
def Acc.nilOf{e:Nat}(h:Acc e n v cs M M₀)(f:Yh v=true):v=.nl:=by
 rcases h with⟨rfl,_⟩|⟨b,c,len,cap,rfl,_⟩
 .rfl
 .cases f
def Zus(la:List Int)(ps:List (Int×Int)):Qz2 la ps<=la.length:=by
 have key:∀(la:List Int)(st:Nat×List (Int×Int)),(la.foldl (Qgb ps) st).1<=st.1+la.length:=by
  intro la
  induction la with
  |nil=>intro st;simp
  |cons a la b=>
   intro st;have h1:=b (Qgb ps st a);have h2:(Qgb ps st a).1<=st.1+1:=by rw[Zo0];simp only;split <;> omega
   simp only[foldl_cons,length_cons];omega
 simpa[Qz2]using key la (0,[])
def WK.mostT(t:WK)(tk:Qvl):Nat:=Qz2 tk.a (t.reach tk [] [])
def WK.agr(t:WK)(tk:Qvl):List Int×List Int:=Zt4 (t.mostT tk) (t.leftF tk) tk.a
variable{T:Type}{S:Sys prog T}{U:Qa T}
section
attribute [local irreducible] Qb Zm Wo
def Zp9(h:TH)(t:WK)(ht:GK U.frz h t)(e lv:Int)(a a':Option Addr)(len cap Q cap':Nat)(l l':List Int)(hl:Z6 U.frz a len l)(hl':Z6 U.frz a' Q l')(cc:len<2^60)(bj:Q<2^60)
  (hL:t.talkF e l l' lv=0->(Qlh l (t.mostT ⟨e,lv,l,l'⟩) (t.reach ⟨e,lv,l,l'⟩ [] [])).isSome=true) (bp:t.talkF e l l' lv=0->∀x,(t.reach ⟨e,lv,l,l'⟩ x []).length<=64) :
  Qb S 13 #[h.v,.int .i64 e,.slice a len cap,.slice a' Q cap',.int .i64 lv] (λ v U'=>(∃va vb vp la B lp,v=.tuple #[va,vb,vp,.int .i64 (t.talkF e l l' lv)]/\Zld U'.frz va la/\Zld U'.frz vb B/\Zmw U'.frz vp lp /\
   (if t.talkF e l l' lv=0 then(la,B)=t.agr ⟨e,lv,l,l'⟩/\Qlh l (t.mostT ⟨e,lv,l,l'⟩) (t.reach ⟨e,lv,l,l'⟩ [] [])=some lp else la=[]/\B=[]/\lp=[]))/\U.le U') U:=by
 refine Qb.sep (R:=λ v U'=>∃va vb vp la B lp,v=.tuple #[va,vb,vp,.int .i64 (t.talkF e l l' lv)]/\Zld U'.frz va la/\Zld U'.frz vb B/\Acc 41 2 vp (lp.flatMap Qam) U'.M U.M/\(∀x o,U.I x=some o->U'.I x=some o)/\U'.tok=U.tok /\
   (if t.talkF e l l' lv=0 then(la,B)=t.agr ⟨e,lv,l,l'⟩/\Qlh l (t.mostT ⟨e,lv,l,l'⟩) (t.reach ⟨e,lv,l,l'⟩ [] [])=some lp else la=[]/\B=[]/\lp=[])) (Qb.of (args:=[_,_,_,_,_]) Zr3 Qf S1 ?_) ?_
 rotate_left
 .rintro v U' hs ⟨va,vb,vp,la,B,lp,rfl,h1,h2,h3,h4,h5,h6⟩;obtain⟨U'',k1,k2,k3⟩:=Acc.pairsN (U:={ U' with M:=U.M }) hs h3 (λ _ _ h=>h) rfl;have ac:U'.frz.lg U''.frz:=⟨k2.imm,⟨[],rfl⟩,k2.tok⟩;exact⟨U'',k1,⟨va,vb,vp,la,B,lp,rfl,h1.lg ac,h2.lg ac,k3,h6⟩,⟨λ b o hb=>k2.imm b o (h4 b o hb),k2.own,k2.tok.trans h5⟩⟩
 repeat refine⟨rfl,?_⟩
 conv=>whnf
 intro b5 U1 br bt;refine⟨_,⟨rfl,bt.rdT λ _ _ h=>h⟩,?_⟩;have bh:U.frz.lg U1:=Qr.trans br.lg;refine⟨Zpd.any,(Zoa h t (ht.lg bh) e lv a a' len cap Q cap' l l' (hl.lg bh) (hl'.lg bh) cc bj).go λ _=>?_⟩
 conv=>whnf
 intro an bv;refine⟨_,.refl _,rfl,Zv (vs:=KH.cs h ⟨a,len,cap,a',Q,cap'⟩ ⟨e,lv,l,l'⟩) bv rfl (by simp[KH.cs,Value.single]) λ U2 co a2=>?_⟩;have ac:=br.trans co;have bx:U.frz.lg U2:=Qr.trans ac.lg
 repeat refine⟨rfl,?_⟩
 conv=>whnf
 apply Qg<;>intro F
 .have hf:t.talkF e l l' lv≠0:=by simpa using F
  repeat refine⟨rfl,?_⟩
  conv=>whnf
  exact⟨_,_,_,[],[],[],rfl,.nil,.nil,by rw[ac.own];exact .nil,ac.imm,ac.tok,by rw[if_neg hf];exact⟨rfl,rfl,rfl⟩⟩
 have hf:t.talkF e l l' lv=0:=by simpa using F
 obtain⟨b2,hed,cu,bu,c4⟩:=WK.talk_two hf;have l8:l.length<=8:=Zob b2 cu;have c6:l'.length<=8:=Zob b2 bu;have bs:=(WK.chk_asc bu).1;have cw:=hl.1;have c3:=hl'.1;generalize cj:(⟨e,lv,l,l'⟩:Qvl)=tk at *;have e1:tk.a=l:=by rw[<- cj]
 have e2:tk.b=l':=by rw[<- cj]
 let kh:KH:=⟨a,len,cap,a',Q,cap'⟩
 refine⟨KH.cs h kh tk,⟨rfl,Zi.rdI a2 (λ _ _ h=>h)⟩,Zn4.any,(Zkk h kh tk none none 0 0 0 0).mono ?_⟩;rintro _ U3⟨⟨b3,b4,ck,rfl,cq,cr,ct⟩,bb⟩-;have bi:=ac.trans bb;have ai:U.frz.lg U3.frz:=(bx.trans bb.lg).frz2;have ay:Z6 U.frz kh.aa kh.al tk.a:=by rw[e1];exact hl
 have ca:Z6 U.frz kh.ba kh.bl tk.b:=by rw[e2];exact hl'
 have b7:kh.al<=8:=by show len<=8;omega
 have b8:kh.bl<=8:=by show Q<=8;omega
 refine⟨Zpe.any,((Zju h t (ht.lg ai) kh tk (ay.lg ai) (ca.lg ai) b7 b8 b3 b4 ck none 0 0 [] ⟨rfl,S1⟩ O1 cq cr ct).sep (R':=λ v U''=>U3.le U''/\Zmw U''.frz v (t.reach tk [] [])) λ v U' hs⟨h1,h2,h3⟩=>by
  obtain⟨U'',k1,k2,k3⟩:=h1.pairsN hs h2 h3;exact⟨U'',k1,k2,k3⟩).mono ?_⟩
 rintro _ U4⟨aw,pa,pc,rfl,bm,ak⟩-;have ag:=bi.trans aw;have bz:U.frz.lg U4.frz:=(ai.trans (⟨aw.imm,⟨[],rfl⟩,aw.tok⟩:U3.frz.lg U4.frz));have ae:Zi U4 an (KH.cs h kh tk).toArray:=a2.le (bb.trans aw);have cy:(t.reach tk [] []).length<=64:=bp hf [];refine⟨KH.cs h kh tk,⟨rfl,Zi.rdI ae (λ _ _ h=>h)⟩,Zph.any,(Zn6 h kh tk (ay.lg bz) O1 pa _ pc (t.reach tk [] []) ak O1).go λ _=>?_⟩;have bk:Qz2 tk.a (t.reach tk [] [])=t.mostT tk:=rfl;rw[bk]
 have c5:t.mostT tk<=8:=by
  have:=Zus tk.a (t.reach tk [] []);rw[e1]at this;unfold WK.mostT;rw[e1];omega
 refine⟨O1,?_⟩;rw[Zut len O1]
 conv=>whnf
 have bd:Asc tk.b:=by rw[e2];exact bs
 refine⟨Nat×Value×Value×List Int×List Int,λ y=>[(2,.slice a len cap),(10,y.2.1),(11,y.2.2.1),(14,.pb an),(15,.slice pa (t.reach tk [] []).length pc),(16,.int .i64 (t.mostT tk)),(42,.int .i64 ((2^len:Nat):Int)),(43,.int .i64 y.1)],
  λ y U'=>U4.le U'/\Zld U'.frz y.2.1 y.2.2.2.1/\Zld U'.frz y.2.2.1 y.2.2.2.2/\y.1<=2^len/\y.2.2.2.1.length<=8/\(y.2.2.2.1,y.2.2.2.2)=(range y.1).foldl (Qje (t.mostT tk) (t.leftF tk) tk.a) ([],[]),
  λ y=>2^len-y.1,(0,.nl,.nl,[],[]),T1,⟨.refl _,.nil,.nil,Nat.zero_le _,S1,rfl⟩,?_⟩
 have cl:2^len<=256:=by
  have:2^len<=2^8:=Nat.pow_le_pow_right D1 O1;omega
 rintro⟨s,fa,fb,la,B⟩f U5⟨am,b0,b1,hs,b9,bo⟩;simp only at b0 b1 hs b9 bo;obtain⟨H,T,rfl,V,a7⟩:=b0;obtain⟨Z,ab,rfl,W,a8⟩:=b1;have X:=ag.trans am;have aq:U.frz.lg U5:=Qr.trans X.lg
 repeat refine⟨rfl,?_⟩
 conv=>whnf
 apply Qg<;>intro F
 .have hlt:s<2^len:=by
   have h:=of_decide_eq_true F;exact Int.ofNat_lt.1 h
  have ah:Z9 (s+1):=I1
  refine⟨Nat×Value,λ y=>[(2,.slice a len cap),(10,.slice H la.length T),(11,.slice Z B.length ab),(14,.pb an),(15,.slice pa (t.reach tk [] []).length pc),(16,.int .i64 (t.mostT tk)),(17,.int .i64 s),(18,y.2),(42,.int .i64 ((2^len:Nat):Int)),(43,.int .i64 s),(46,.slice a len cap),(47,.int .i64 len),(48,.int .i64 y.1)],
   λ y U'=>(∀x o,U5.I x=some o->U'.I x=some o)/\U'.tok=U.tok/\Acc 3 1 y.2 ((Qdb s 0 (l.take y.1)).map λ n=>.int .i64 n) U'.M U.M/\Yh y.2=(Qdb s 0 (l.take y.1)).isEmpty/\y.1<=len,
   λ y=>len-y.1,(0,.nl),T1,⟨λ _ _ h=>h,X.tok,by rw[X.own];exact .nil,rfl,O1⟩,?_⟩
  rintro⟨i,v⟩f U6⟨ao,av,K,aj,hi⟩;simp only at K aj hi;have a6:U.frz.lg U6:=⟨λ x o h=>ao x o (aq.imm x o h),Zz3,av⟩;obtain⟨sa,sc,rfl,-⟩:=SF K
  repeat refine⟨rfl,?_⟩
  conv=>whnf
  apply Qg<;>intro F
  .have hlti:i<len:=by simpa using F
   obtain⟨ad,n,hx,cp,-,c0⟩:=(hl.lg a6).at hlti;have b6:Z9 (i+1):=I1
   have P:Qdb s 0 (l.take (i+1))=Qdb s 0 (l.take i)++(if s.testBit i then[n]else[]):=by
    rw[Wf hx,Zq7,length_take,Nat.zero_add,Nat.min_eq_left O1]
   refine⟨ad,i,⟨cp,rfl,hlti⟩,_,c0,O1,rfl,?_⟩;rw[Zuo s i O1 O1];by_cases a3:s.testBit i
   .rw[if_pos a3]at P ⊢
    repeat refine⟨rfl,?_⟩
    conv=>whnf
    intro bn cv;refine Zl cv λ U7 bc be=>?_;have be:Zi U7 bn #[.int .i64 n]:=be
    conv=>whnf
    refine Wn (v:=.slice sa _ sc) (cs:=(Qdb s 0 (l.take i)).map λ n=>.int .i64 n) (new:=[.int .i64 n]) (M₀:=U.M) H4 rfl rfl (by rw[bc.own];exact K) (.inr ⟨_,rfl,Zi.rdI (vs:=[.int .i64 n]) be (λ _ _ h=>h)⟩) rfl Zz1 (by have:=Zp2 s (l.take i) 0;simp;simp at this;omega) λ v' M' ax cx=>?_;have ax:Acc 3 1 v' ((Qdb s 0 (l.take (i+1))).map λ n=>.int .i64 n) M' U.M:=by rw[P];simpa using ax
    obtain⟨ta,tc,rfl,-⟩:=SF (U:={ U7 with M:=M' }) ax;refine⟨b6,rfl,(i+1,.slice ta _ tc),T1,⟨λ x o h=>bc.imm x o (ao x o h),bc.tok.trans av,ax,?_,Zz2⟩,L1⟩;show Yh (.slice ta _ tc)=_;rw[cx,P];simp
   .rw[if_neg a3]at P ⊢;rw[append_nil]at P
    repeat refine⟨rfl,?_⟩
    refine⟨b6,rfl,(i+1,.slice sa (Qdb s 0 (l.take i)).length sc),T1,⟨ao,av,by simp only[P];exact K,by simp only[P];exact aj,Zz2⟩,L1⟩
  .have hge:i=len:=by simp at F;omega
   subst hge;rw[take_of_length_le O1]at K aj;rw[take_of_length_le O1];have bg:Zi U6 an (KH.cs h kh tk).toArray:=ae.imI λ x o h=>ao x o (am.imm x o h);refine⟨KH.cs h kh tk,⟨rfl,Zi.rdI bg (λ _ _ h=>h)⟩,Zr8.any,Qb.sep0 λ cg=>?_⟩;obtain⟨U7,k1,k2,na,nc,e3,az,ce⟩:=Acc.intsN (U:={ U6 with M:=U.M }) cg K (λ e=>K.nilOf (by rw[aj,e];rfl)) (λ _ _ h=>h) rfl;cases e3;have au:U.frz.lg U7.frz:=⟨λ x o h=>k2.imm x o (a6.imm x o h),⟨[],rfl⟩,k2.tok.trans av⟩;have c2:(Qdb s 0 l).length<=8:=by have:=Zp2 s l 0;omega
   refine Qb.shift k1 ((Zri h t (ht.lg au) kh tk (ay.lg au) (ca.lg au) b7 b8 sa (Qdb s 0 l).length sc (Qdb s 0 l) ce O1 (bp hf _)).mono ?_);rintro _ U8⟨⟨out,cf,ra,rc,rfl,a1,a0⟩,ap⟩-;obtain rfl:=WK.left_eq bd cf;have bq:∀x o,U5.I x=some o->U8.I x=some o:=λ x o h=>ap.imm x o (k2.imm x o (ao x o h));have cm:U8.M=U.M:=ap.own.trans k2.own;have ch:U8.tok=U.tok:=ap.tok.trans (k2.tok.trans av);have E:U4.le U8:=⟨λ x o h=>bq x o (am.imm x o h),cm.trans ag.own.symm,ch.trans ag.tok.symm⟩;have a5:U5.frz.lg U8.frz:=⟨bq,⟨[],rfl⟩,ch.trans X.tok.symm⟩;have N:=a7.lg a5;have af:=a8.lg a5;have Y:Z6 U8.frz sa (Qdb s 0 l).length (Qdb s 0 l):=ce.lg (⟨ap.imm,⟨[],rfl⟩,ap.tok⟩:U7.frz.lg U8.frz)
   have c1:(t.leftF tk (Qdb s 0 l)).length<=8:=by
    have h1:=length_filter_le (λ y=>(t.reach tk (Qdb s 0 l) []).any λ p=>p.2==y) tk.b;rw[e2]at h1;unfold WK.leftF;rw[e2];omega
   have w:(range (s+1)).foldl (Qje (t.mostT tk) (t.leftF tk) tk.a) ([],[])=Qje (t.mostT tk) (t.leftF tk) tk.a (la,B) s:=by rw[range_succ,foldl_append,<- bo];rfl
   refine⟨I1,?_⟩
   repeat refine⟨rfl,?_⟩
   conv=>whnf
   apply Jt<;>intro F
   .have hsum:(Qdb s 0 l).length+(t.leftF tk (Qdb s 0 l)).length=t.mostT tk:=by
     have h:=eq_of_beq F;omega
    repeat refine⟨rfl,?_⟩
    conv=>whnf
    apply Jt<;>intro F
    .have hs0:s≠0:=by simpa using F
     conv=>whnf
     refine K6 Px rfl ?_
     conv=>whnf
     apply Jt<;>intro F
     .have hfa0:la=[]:=V.1 (by cases H with|none=>rfl|some x=>simp at F)
      conv=>whnf
      refine K6 Px rfl ?_
      repeat refine⟨rfl,?_⟩
      conv=>whnf
      apply Jt<;>intro F
      .have hnb:¬((la,B).1=[]/\(la,B).2=[]):=λ h=>by
        have h2:=W.2 h.2;rw[h2]at F;cases F
       refine⟨Zpi.any,(Zmm sa H _ sc _ T (Qdb s 0 l) la (Y.lg Qr) (N.lg Qr) O1 O1).go λ _=>?_⟩
       repeat refine⟨rfl,?_⟩
       conv=>whnf
       apply Qg<;>intro F
       .have hcmp:Qn8 (Qdb s 0 l) la<0:=by simpa using F
        have G:Qje (t.mostT tk) (t.leftF tk) tk.a (la,B) s=(Qdb s 0 l,t.leftF tk (Qdb s 0 l)):=by unfold Qje;rw[e1,if_pos ⟨hsum,.inr (.inr hcmp)⟩]
        rw[G]at w
        repeat refine⟨rfl,?_⟩
        refine⟨ah,?_⟩
        conv=>whnf
        exact⟨rfl,(s+1,.slice sa (Qdb s 0 l).length sc,.slice ra (t.leftF tk (Qdb s 0 l)).length rc,Qdb s 0 l,t.leftF tk (Qdb s 0 l)),T1,⟨E,⟨sa,sc,rfl,az,Y⟩,⟨ra,rc,rfl,a1,a0⟩,Zz2,Zz2,w.symm⟩,L1⟩
       .have hcmp:¬Qn8 (Qdb s 0 l) la<0:=by simpa using F
        have G:Qje (t.mostT tk) (t.leftF tk) tk.a (la,B) s=(la,B):=by unfold Qje;rw[e1,if_neg (by rintro⟨_,h|h|h⟩;exact hs0 h;exact hnb h;exact hcmp h)]
        rw[G]at w
        repeat refine⟨rfl,?_⟩
        refine⟨ah,?_⟩
        conv=>whnf
        exact⟨rfl,(s+1,.slice H la.length T,.slice Z B.length ab,la,B),T1,⟨E,⟨H,T,rfl,V,N⟩,⟨Z,ab,rfl,W,af⟩,Zz2,Zz2,w.symm⟩,L1⟩
      .have hfb0:B=[]:=W.1 (by cases Z with|none=>rfl|some x=>simp at F);have G:Qje (t.mostT tk) (t.leftF tk) tk.a (la,B) s=(Qdb s 0 l,t.leftF tk (Qdb s 0 l)):=by unfold Qje;rw[e1,if_pos ⟨hsum,.inr (.inl ⟨hfa0,hfb0⟩)⟩]
       rw[G]at w
       repeat refine⟨rfl,?_⟩
       refine⟨ah,?_⟩
       conv=>whnf
       exact⟨rfl,(s+1,.slice sa (Qdb s 0 l).length sc,.slice ra (t.leftF tk (Qdb s 0 l)).length rc,Qdb s 0 l,t.leftF tk (Qdb s 0 l)),T1,⟨E,⟨sa,sc,rfl,az,Y⟩,⟨ra,rc,rfl,a1,a0⟩,Zz2,Zz2,w.symm⟩,L1⟩
     .have hnb:¬((la,B).1=[]/\(la,B).2=[]):=λ h=>by
       have h2:=V.2 h.1;rw[h2]at F;cases F
      refine⟨Zpi.any,(Zmm sa H _ sc _ T (Qdb s 0 l) la (Y.lg Qr) (N.lg Qr) O1 O1).go λ _=>?_⟩
      repeat refine⟨rfl,?_⟩
      conv=>whnf
      apply Qg<;>intro F
      .have hcmp:Qn8 (Qdb s 0 l) la<0:=by simpa using F
       have G:Qje (t.mostT tk) (t.leftF tk) tk.a (la,B) s=(Qdb s 0 l,t.leftF tk (Qdb s 0 l)):=by unfold Qje;rw[e1,if_pos ⟨hsum,.inr (.inr hcmp)⟩]
       rw[G]at w
       repeat refine⟨rfl,?_⟩
       refine⟨ah,?_⟩
       conv=>whnf
       exact⟨rfl,(s+1,.slice sa (Qdb s 0 l).length sc,.slice ra (t.leftF tk (Qdb s 0 l)).length rc,Qdb s 0 l,t.leftF tk (Qdb s 0 l)),T1,⟨E,⟨sa,sc,rfl,az,Y⟩,⟨ra,rc,rfl,a1,a0⟩,Zz2,Zz2,w.symm⟩,L1⟩
      .have hcmp:¬Qn8 (Qdb s 0 l) la<0:=by simpa using F
       have G:Qje (t.mostT tk) (t.leftF tk) tk.a (la,B) s=(la,B):=by unfold Qje;rw[e1,if_neg (by rintro⟨_,h|h|h⟩;exact hs0 h;exact hnb h;exact hcmp h)]
       rw[G]at w
       repeat refine⟨rfl,?_⟩
       refine⟨ah,?_⟩
       conv=>whnf
       exact⟨rfl,(s+1,.slice H la.length T,.slice Z B.length ab,la,B),T1,⟨E,⟨H,T,rfl,V,N⟩,⟨Z,ab,rfl,W,af⟩,Zz2,Zz2,w.symm⟩,L1⟩
    .have hs0:s=0:=by simpa using F
     have G:Qje (t.mostT tk) (t.leftF tk) tk.a (la,B) s=(Qdb s 0 l,t.leftF tk (Qdb s 0 l)):=by unfold Qje;rw[e1,if_pos ⟨hsum,.inl hs0⟩]
     rw[G]at w
     repeat refine⟨rfl,?_⟩
     refine⟨ah,?_⟩
     conv=>whnf
     exact⟨rfl,(s+1,.slice sa (Qdb s 0 l).length sc,.slice ra (t.leftF tk (Qdb s 0 l)).length rc,Qdb s 0 l,t.leftF tk (Qdb s 0 l)),T1,⟨E,⟨sa,sc,rfl,az,Y⟩,⟨ra,rc,rfl,a1,a0⟩,Zz2,Zz2,w.symm⟩,L1⟩
   .have hsum:¬(Qdb s 0 l).length+(t.leftF tk (Qdb s 0 l)).length=t.mostT tk:=λ h=>by
     have F:=ne_of_beq_false F;exact F O1
    have G:Qje (t.mostT tk) (t.leftF tk) tk.a (la,B) s=(la,B):=by unfold Qje;rw[e1,if_neg (λ h=>hsum h.1)]
    rw[G]at w
    repeat refine⟨rfl,?_⟩
    refine⟨ah,?_⟩
    conv=>whnf
    exact⟨rfl,(s+1,.slice H la.length T,.slice Z B.length ab,la,B),T1,⟨E,⟨H,T,rfl,V,N⟩,⟨Z,ab,rfl,W,af⟩,Zz2,Zz2,w.symm⟩,L1⟩
 .have hge:s=2^len:=by
   have h:=of_decide_eq_false F;have h':¬s<2^len:=λ x=>h (Int.ofNat_lt.2 x);omega
  obtain⟨L,hL'⟩:=Option.isSome_iff_exists.1 (hL hf);have bf:Zi U5 an (KH.cs h kh tk).toArray:=ae.imI am.imm;have bw:U4.frz.lg U5.frz:=⟨am.imm,⟨[],rfl⟩,am.tok⟩;refine⟨KH.cs h kh tk,⟨rfl,Zi.rdI bf (λ _ _ h=>h)⟩,Zr9.any,(Zqg h kh tk (ay.lg aq.frz2) O1 (.slice pa (t.reach tk [] []).length pc) (t.reach tk [] []) ⟨pa,pc,rfl,bm,ak.lg bw λ _ _ h=>h⟩ O1 (t.mostT tk) O1 L (by rw[e1];exact hL')).mono ?_⟩;rintro v U6⟨ha,hI,a9⟩-;obtain⟨qa,qc,rfl,-⟩:=Zlo ha;have a4:U5.frz.lg U6.frz:=⟨hI,⟨[],rfl⟩,a9⟩
  repeat refine⟨rfl,?_⟩
  refine⟨_,_,_,la,B,L,by rw[hf];rfl,⟨H,T,rfl,V,a7.lg a4⟩,⟨Z,ab,rfl,W,a8.lg a4⟩,by rw[X.own]at ha;exact ha,λ x o h=>hI x o (aq.imm x o h),a9.trans X.tok,?_⟩;rw[if_pos hf];refine⟨?_,hL'⟩;rw[bo,hge];unfold WK.agr Zt4;rw[e1,cw]
end
variable{U' U'':Qa T}{b:Nat}{e:TypeId}{c:Array Value}
structure Hlr(U:Qa T)(b:Nat)(e:TypeId)(c:Array Value)(U':Qa T):Prop where
 imm:∀x o,U.I x=some o->U'.I x=some o
 own:U'.M=.obj b (.cells c e (0,0))::U.M
 tok:U'.tok=U.tok
 new:U.I b=none
def Hlr.le{U U' U'':Qa T}{b:Nat}{e:TypeId}{c:Array Value}(h:Hlr U b e c U')(k:U'.le U''):Hlr U b e c U'':=⟨λ x o i=>k.imm x o (h.imm x o i),k.own.trans h.own,k.tok.trans h.tok,h.new⟩
def Hlr.frz2(h:Hlr U b e c U'):U.frz.lg U'.frz:=⟨h.imm,⟨[],rfl⟩,h.tok⟩
def Hlr.frz1(h:Hlr U b e c U'):U.frz.lg U':=⟨h.imm,Zz3,h.tok⟩
def Hlr.made(h:U.le U')(hf:U'.free b):Hlr U b e c (U'.put b (.cells c e)):=by
 refine⟨h.imm,by show _::U'.M=_;rw[h.own],h.tok,?_⟩;cases hb:U.I b with
 |none=>rfl
 |some o=>have:=h.imm b o hb;rw[hf.1]at this;cases this
def HqV(h:Qa T)(R:Qa T->Prop)(b:Nat)(e:TypeId)(z:Array Value)(U':Qa T):Prop:=∃f,h.le f/\R f/\Hlr f b e z U'
def HqV.le{f:Qa T}{R:Qa T->Prop}{b:Nat}{e:TypeId}{z:Array Value}(h:HqV f R b e z U')(k:U'.le U''):HqV f R b e z U'':=let ⟨d,h1,h2,h3⟩:=h;⟨d,h1,h2,h3.le k⟩
