/- Lemmas. No conditions. -/
import Derived.Test.YtignaaddghcanaaGreatDoorC06
import Derived.Test.YtignaaddghcanaaGreatDoorC03
import Derived.Test.YtignaaddghcanaaGreatDoorC00
import Derived.Test.YtignaaddghcanaaGreatDoorB39
set_option linter.all false
set_option maxRecDepth 100000
set_option maxHeartbeats 2000000
open List
open Go.Proofs.Tryz (prog)
namespace Go.TM
open Go.Proofs
variable{T α:Type}{S:Sys prog T}{U:Qa T}{Q:Qa T->Prop}{z:Array Value}{a:Ent}{la:Option Ent}{lv w v:Value}{ra ca:List ByteArray}{G:RSt}{b8 b7 k:Nat}{ln:Int}{M₀:List Qw}{d:List α}{j:α}
section
attribute [local irreducible] Qb Zp Wv
def Zrg:X3 prog 85 87 1:=.of K1
def Zr2(p q r:Value)(b:z=#[p,q,r])(h:Q U):Xy S 36 z Q U:=by subst b;exact Zsv p q r h
def Zrv(f:a.fol la)(z:Zpp U.frz la lv)(h:Q32 U.frz a w):∃t u g,w=.iface t u/\Ztv prog t "touchmark/rival.follows" g=true/\Qb S g #[u,lv] (λ v U'=>v=.bool true/\U'=U) U:=by
 cases a with
 |rt n=>exact⟨_,_,212,h,Zu6,Zru n la lv f z⟩
 |cs n m=>exact⟨_,_,213,h,Zu7,Zrt n m lv⟩
 |gr l=>
  obtain⟨B,E,rfl,-⟩:=h;cases la with
  |none=>exact f.elim
  |some b=>exact⟨_,_,214,rfl,Ztm,Zp0 _ b lv (by cases b <;> first|exact f.elim|exact .inl ⟨_,_,rfl⟩|exact .inr ⟨_,rfl⟩) z⟩
 |af l=>
  obtain⟨B,E,rfl,-⟩:=h;cases la with
  |none=>exact f.elim
  |some b=>exact⟨_,_,216,rfl,Ztn,Zp1 _ b lv (by cases b <;> first|exact f.elim|exact .inl ⟨_,_,rfl⟩|exact .inr ⟨_,rfl⟩) z⟩
def Zr3{s:RSt}(w:Zxw ra ca s a G)(f:Q32 U.frz a v)(E:Rdg U b8 b7 k ln s.1 s.2.1 s.2.2 M₀)(X:ra.Nodup)(Q:ca.Nodup)(F:Qw.obj b7 (Qt Value.string (ZO 0 ra))∈M₀)(W:Qw.obj k (Qt Value.string (ZO 0 ca))∈M₀) :
  Qb S 41 #[.pb b8,v] (λ _ U'=>Rdg U' b8 b7 k ln G.1 G.2.1 G.2.2 M₀/\U.frz.lg U'.frz) U:=by
 obtain⟨rs,cs,cur⟩:=s;cases a with
 |rt n=>
  obtain rfl:v=.iface 95 (.agg #[.string n]):=f;obtain⟨rfl,b⟩:=w;exact Zqy b8 b7 k ln rs cs cur M₀ n E b
 |cs n m=>
  obtain rfl:v=.iface 98 (.agg #[.string n,.string m]):=f;obtain⟨q,Y,rfl,b⟩:=w;simp only at b E;refine Qb.sep0 λ Z=>?_;obtain⟨U',k1,k2,k3⟩:=E.close Z O1;exact Qb.shift k1 ((Zqw b8 b7 k ln rs (cs++cur.toList) M₀ n m k2 (by rw[length_append];cases cur <;> simp <;> omega) ra X F q Y).mono λ _ U'' h=>⟨h.1,k3.trans h.2⟩)
 |gr l=>
  obtain⟨H,I,rfl,B,T⟩:=f;obtain⟨c,V,rfl,⟨K,L,N,P⟩,b,rfl⟩:=w;exact Zqx b8 b7 k ln rs cs c M₀ H l.length I l B E b ra X F V K L N P
 |af l=>
  obtain⟨H,I,rfl,B,T⟩:=f;obtain⟨c,V,rfl,⟨K,L,N,P⟩,rfl⟩:=w;exact Zqv b8 b7 k ln rs cs c M₀ H l.length I l B E trivial ca Q W V K L N P
def Qzv(h:d[k]?=some j):d.take (k+1)=d.take k++[j]:=by
 rw[take_add_one,h];rfl
def Zqh(h:d[k]?=some j):d.drop k=j::d.drop (k+1):=by
 have b:=(List.getElem?_eq_some_iff.1 h).1;rw[drop_eq_getElem_cons b,(List.getElem?_eq_some_iff.1 h).2]
def Zqt(es:List Ent)(yl:List ByteArray)(ht:Zvb es yl)(bm:∀e∈es,e.ok)(cj:Zro none es)(hr:(rsN es).Nodup)(bi:(csN es).Nodup)(d7:es.length<=60)(B:RSt)(bn:Qzw (rsN es) (csN es) ([],[],none) es B)(eb:(Qdb yl).size<=60000)(hk:JY U)(c8:B.2.1.length<40)(d1:∀s∈B.1,s.size<2^60)(dq:∀c∈B.2.1++B.2.2.toList,c.nm.size<2^60)(ds:Bk.flaw Zh ⟨B.1,B.2.1++B.2.2.toList⟩=0) :
  Qb S 9 #[.string (Qdb yl)] (λ v U'=>(∃q:BH,v=.tuple #[q.v,.int .i64 0,.int .i64 0]/\Zq U'.frz q ⟨B.1,B.2.1++B.2.2.toList⟩/\q.rl<=q.rc)/\U.frz.lg U'.frz/\∃X,U'.M.Perm (X++U.M)) U:=by
 refine Qb.ofE (args:=[_]) Zrx Qf S1 ?_
 conv=>whnf
 intro b2 de;refine⟨_,.refl _,?_⟩
 conv=>whnf
 intro b3 df;refine⟨_,.refl _,?_⟩
 conv=>whnf
 intro b4 dg;refine⟨_,.refl _,rfl,?_⟩;apply Qg<;>intro hc
 .exfalso;have:(60000:Int)<(Qdb yl).size:=by simpa using hc
  omega
 clear hc;refine⟨rfl,?_⟩
 conv=>whnf
 refine GT Value.string λ rm d0=>?_
 conv=>whnf
 refine GT Value.string λ cm dp=>?_
 conv=>whnf
 intro rb dy
 conv=>whnf
 intro b5 dh;refine⟨_,.refl _,rfl,WJ (c:=[.pointer none].toArray) (i:=0) (v:=.pb rb) [] rfl D1 rfl λ U1 br c1 a4=>?_⟩
 conv=>whnf
 intro b6 di;refine⟨_,.refl _,?_⟩
 conv=>whnf
 intro b7 dj;refine⟨_,.refl _,?_⟩
 conv=>whnf
 intro b8 dk;refine⟨_,.refl _,?_⟩
 conv=>whnf
 intro b9 dl;refine⟨_,.refl _,rfl,WJ (c:=[.int .i64 0].toArray) (i:=0) (v:=.int .i64 0) [_] rfl D1 rfl λ U2 bu c2 N=>?_⟩;refine⟨rfl,WJ (c:=[.int .i64 0].toArray) (i:=0) (v:=.int .i64 0) [] (N.trans rfl) D1 rfl λ U3 bv c3 a5=>?_⟩
 replace a5:U3.M=.cl b9 [.int .i64 0] 3::.cl b8 [.int .i64 0] 3::.cl b7 [.nilIface] 87::.cl b6 [.nl] 85::U1.M:=a5.trans rfl
 replace a4:U1.M=.cl b5 [.pb rb] 80 ::
  .obj rb (.cells (rdC .nl .nl rm cm 0).toArray 84 (0,0))::.obj cm (Qt Value.string (ZO 0 []))::.obj rm (Qt Value.string (ZO 0 [])) ::
  .cl b4 [.int .i64 0] 28::.cl b3 [.int .i64 0] 3::.cl b2 [.nl,.nl] 25::U.M:=a4.trans rfl
 have cp:U.frz.lg U3.frz:=by
  refine⟨λ x o h=>?_,⟨[],rfl⟩,?_⟩
  .show U3.I x=_;rw[bv,bu];show U1.I x=_;rw[br];exact h
  .show U3.tok=_;rw[c3,c2];show U1.tok=_;rw[c1];rfl
 clear de df dg d0 dp dy dh di dj dk dl br c1 bu c2 bv c3 N;refine⟨Zsf.any,(Zqs _).mono ?_⟩;rintro _ U4⟨⟨bs,rfl,b0⟩,bw,c4⟩-
 conv=>whnf
 obtain⟨i,rfl,rfl,rfl,rfl,rfl,rfl,rfl,rfl,rfl,rfl,rfl,rfl⟩:∃i:PI,bs=i.bs/\b2=i.b2/\b3=i.b3/\b4=i.b4/\rm=i.rm/\cm=i.cm/\rb=i.rb/\b5=i.b5/\b6=i.b6/\b7=i.b7/\b8=i.b8/\b9=i.b9:=
  ⟨⟨bs,b2,b3,b4,rm,cm,rb,b5,b6,b7,b8,b9⟩,rfl,rfl,rfl,rfl,rfl,rfl,rfl,rfl,rfl,rfl,rfl,rfl⟩
 have db:U4.M=i.M (Qdb yl) [] [] .nl .nilIface 0 0 U.M:=by
  rw[b0,a5,a4];rfl
 have bk:U.frz.lg U4.frz:=by
  refine cp.trans ⟨λ x o h=>?_,⟨[],rfl⟩,c4⟩;show U4.I x=_;rw[bw];exact h
 clear a4 a5 b0 cp bw c4
 conv=>whnf
 refine Zvk Qf i.bs yl (λ k=>Qdb (yl.drop k)) (λ k r U'=>Zth U' i es U.M k r/\U4.frz.lg U'.frz) rfl rfl Zsm.any (λ l=>Zps l i.bs yl (λ k y hy=>ht.ln bm k y hy) O1) rfl (λ k r U1 h=>?_) (λ k r U1 U2 ct h=>⟨h.1.le ct,h.2.trans ct.lg.frz2⟩) ⟨⟨.nl,.nilIface,[],[],none,?_,.nil,⟨rfl,λ i e h=>by simp at h⟩,rfl,cj⟩,⟨λ _ _ h=>h,⟨[],rfl⟩,rfl⟩⟩ ?_ ?_
 .obtain⟨M',h1,h2⟩:=Zth.held i es U.M k r U1 h.1;exact⟨M',h1,λ r' U2 hl hM=>⟨h2 r' U2 hl hM,h.2.trans hl⟩⟩
 .rw[db];exact Perm.refl _
 .rintro l A Bd D k y U0 KN KX KR KA hy ⟨⟨av,lv,vals,V,la,hP,hav,hvals,hlv,hfo⟩,hl⟩ hKN hKA;have a7:k<es.length:=by rw[<- ht.1];exact(List.getElem?_eq_some_iff.1 hy).1
  obtain⟨e,he⟩:∃e,es[k]?=some e:=⟨_,getElem?_eq_getElem a7⟩;have a1:=bm e (mem_of_getElem? he)
  have bq:∃x,x=e.line/\(y=x++byB 10\/(NoB 10 y/\x=y)):=by
   rcases ht.2 k e y he hy with h|⟨-,rfl⟩
   .exact⟨_,rfl,.inl h⟩
   .exact⟨_,rfl,.inr ⟨Ent.no10 a1,rfl⟩⟩
  obtain⟨x,hx,bq⟩:=bq
  have d3:y.size<2^60:=by
   have:=Zsy (mem_of_getElem? hy);omega
  rw[Zqh he]at hfo
  conv=>whnf
  refine hKA _ _ ?_
  have ae:(U0.on Bd D).M.Perm ((V++[Bd,D])++i.M (Qdb (yl.drop (k+1))) (rsN (es.take k)) (csN (es.take k)) av lv (rsN (es.take k)).length (csN (es.take k)).length U.M):=
   by rw[append_assoc];exact Perm.trans ((hP.cons D).cons Bd) (i.perm _ _ _ _ _ _ _ V U.M [Bd,D])
  have ah:U4.frz.lg (U0.on Bd D).frz:=hl.trans ⟨λ _ _ h=>h,⟨[],rfl⟩,rfl⟩;have bc:Zpp (U0.on Bd D).frz la lv:=hlv;have z:Zor (U0.on Bd D).frz (es.take k) vals:=hvals;clear hlv hvals hP hl;generalize(U0.on Bd D)=U6 at ae ah bc z ⊢;have dz:=Zxt (es.take k);have dm:=Zxp (es.take k);have ed:(es.take k).length<=60:=by rw[length_take];omega
  generalize bp:rsN (es.take k)=rs at ae dz;generalize bj:csN (es.take k)=cs at ae dm;obtain⟨ms,dx⟩:=Zqe;obtain⟨sa,sl,sc,rfl,-⟩:=hav.src;have cx:=Zvl he;have cu:=Zvd he;rw[bp]at cx;rw[bj]at cu;rw[cx]at hr;rw[cu]at bi
  have tail:∀(t:TypeId)(u:Value)(L G:List ByteArray)(f:Fm)(U8 U9:Qa T),Xr f [(6,.pb i.b6),(7,.pb i.b7),(11,.iface t u)]->Q32 U8.frz e (.iface t u)->U6.frz.lg U8.frz->U8.frz.lg U9.frz ->
    U9.M=(V++[Bd,D])++i.M (Qdb (yl.drop (k+1))) L G (.slice sa sl sc) lv L.length G.length U.M->rs++rsN [e]=L->cs++csN [e]=G->JH S (some l) [.xl 72 6,.m 73 11,.d 74 (.bsl 87 1 #[.nilIface] [(0,1,(.t 73))]),.xz 75 72 74 85,.m 76 11,⟨.st 1 (.t 6) (.t 75),none,none,none⟩,⟨.st 1 (.t 7) (.t 76),none,none,none⟩] KN f [] U9:=by
   intro t u L G f U8 U9 ck hw H ba E er ec;have a3:=H.trans ba;rw[<- ck.ovr];clear ck;have E:U9.M=V++([Bd,D]++i.M (Qdb (yl.drop (k+1))) L G (.slice sa sl sc) lv L.length G.length U.M):=by rw[E,append_assoc]
   refine⟨_,(PI.rd6 _ (E.trans (append_assoc ..).symm)).cell (i:=0) rfl,?_⟩
   conv=>whnf
   intro bb an;refine Zi an λ ax P an=>?_;have Y:=P.own.trans E
   conv=>whnf
   refine Wn (v:=.slice sa sl sc) (cs:=vals) (new:=[.iface t u]) (M₀:=[Bd,D]++i.M (Qdb (yl.drop (k+1))) L G (.slice sa sl sc) lv L.length G.length U.M) Zrg rfl rfl (by rw[Y];exact hav _) (.inr ⟨_,rfl,an.rd⟩) rfl (by simp[Value.single]) (by rw[z.1];simp only[length_singleton];omega) λ v' M' bh _=>?_;obtain⟨V',rfl,a0⟩:=bh.split;obtain⟨ta,tl,tc,rfl,-⟩:=a0.src;refine⟨rfl,PI.st6 (V'++[Bd,D]) (.slice ta tl tc) rfl (append_assoc ..).symm λ ay ac ai Z=>?_⟩;refine⟨rfl,QZ.mono (K:=λ U'=>∃U1,Qv U' U1/\∃U2,Qv U1 U2/\_) (λ _⟨_,h1,U2,h2,h3⟩=>⟨U2,h1.trans h2,h3⟩) _ _ _ (PI.st7 (V'++[Bd,D]) (.iface t u) rfl Z λ F ad aj aa=>?_)⟩;refine⟨_,W3 (U:=F) (M':=Bd::D::i.M (Qdb (yl.drop (k+1))) L G (.slice ta tl tc) (.iface t u) L.length G.length (V'++U.M)) (by rw[aa,append_assoc];exact(i.perm _ _ _ _ _ _ _ V' U.M [Bd,D]).symm),?_⟩
   conv=>whnf
   have ag:U6.frz.lg F.frz:=a3.trans (P.lg.frz2.trans ⟨λ x o h=>by show F.I x=_;rw[ad,ac];exact h,⟨[],rfl⟩,by show F.tok=_;rw[aj,ai];rfl⟩);have ak:Q32 F.frz e (.iface t u):=hw.lg (ba.trans (P.lg.frz2.trans ⟨λ x o h=>by show F.I x=_;rw[ad,ac];exact h,⟨[],rfl⟩,by show F.tok=_;rw[aj,ai];rfl⟩));exact hKN _ _ { F with M:=i.M (Qdb (yl.drop (k+1))) L G (.slice ta tl tc) (.iface t u) L.length G.length (V'++U.M) } ⟨⟨.slice ta tl tc,.iface t u,vals++[.iface t u],V',some e,by rw[Qzv he,Ztb,Zs0,bp,bj,er,ec],a0,by rw[Qzv he];exact(z.lg ag).snoc ak,ak,hfo.2⟩,ah.trans ag⟩
  refine⟨Zsg.any,(Qb.shift (W3 ae) (Zrr y x 10 d3 bq)).mono ?_⟩;rintro _ U7⟨rfl,bf⟩-;have b1:U7.M=(V++[Bd,D])++i.M (Qdb (yl.drop (k+1))) rs cs (.slice sa sl sc) lv rs.length cs.length U.M:=by rw[bf]
  have cr:U6.frz.lg U7.frz:=by rw[bf];exact⟨λ _ _ h=>h,⟨[],rfl⟩,rfl⟩
  clear bf;rw[hx];refine⟨Zna.any,(Zpj _ a1).mono ?_⟩;rintro w U8⟨hw,h8⟩-;have al:=h8.own.trans b1;have H:=cr.trans h8.lg.frz2;obtain⟨t,u,g,rfl,hm,cf⟩:=Zrv (S:=S) hfo.1 (bc.lg H) hw;clear b1 h8
  conv=>whnf
  refine Zs9 dx (λ h=>by cases h) (λ _ _ h=>?_) (.inr ⟨_,_,rfl⟩);clear h;refine⟨_,(PI.rd7 _ al).cell (i:=0) rfl,?_⟩;rw[Qy]
  conv=>whnf
  refine Ztw hm rfl (cf.mono ?_);rintro _ U'⟨rfl,dd⟩-;obtain rfl:=dd.symm;refine⟨_,.refl _,?_⟩
  conv=>whnf
  clear hm cf;obtain⟨d,hu,hd⟩:=Qpv Qz0;obtain⟨ee,aq,hz⟩:=GU Zfy;obtain⟨d',c5,cg⟩:=Qpv Zcd;obtain⟨d8,co,d4⟩:=GU Zoa;have d9:∀w:Qa T,w.frz.lg w.frz:=λ w=>⟨λ _ _ h=>h,⟨[],rfl⟩,rfl⟩
  have du:(∃n,e=.rt n)\/(∃n m,e=.cs n m)\/(t≠95/\t≠98/\rsN [e]=[]/\csN [e]=[]):=by
   cases e with
   |rt n=>exact .inl ⟨_,rfl⟩
   |cs n m=>exact .inr (.inl ⟨_,_,rfl⟩)
   |gr l2=>
    obtain⟨ea,ec,e0,-⟩:=hw;obtain⟨rfl,-⟩:=Value.iface.inj e0;exact .inr (.inr ⟨D1,D1,rfl,rfl⟩)
   |af l2=>
    obtain⟨ea,ec,e0,-⟩:=hw;obtain⟨rfl,-⟩:=Value.iface.inj e0;exact .inr (.inr ⟨D1,D1,rfl,rfl⟩)
  rcases du with⟨n,rfl⟩|⟨n,m,rfl⟩|⟨c9,da,er,ec⟩
  .obtain⟨rfl,rfl⟩:=Value.iface.inj hw;have cv:JB rs n=false:=Zt3 (x:=rsN (es.drop (k+1))) (by simpa[rsN]using hr);refine Qzu hu hd rfl ?_
   conv=>whnf
   intro bt ao;refine⟨_,.refl _,rfl,Zv (vs:=[.string n]) ao rfl (by simp[Value.single]) λ Ua ha ao=>?_⟩;have ab:=ha.own.trans al;refine⟨_,(PI.rd5 _ ab).cell (i:=0) rfl,_,(PI.rdb _ ab).cell (i:=2) rfl,_,ao.sees3 (o:=0) rfl,_,(PI.rd8 _ ab).cell (i:=0) rfl,?_⟩
   conv=>whnf
   intro Uc W _;have bd:=W.own.trans ab;refine⟨Zp7.any,(Zph i.rm rs n cv ((V++[Bd,D])++PI.preR i (Qdb (yl.drop (k+1))) cs (.slice sa sl sc) lv rs.length cs.length) _ (bd.trans (PI.splR _))).mono ?_⟩;rintro _ Ub am -;have az:Ub.M=(V++[Bd,D])++i.M (Qdb (yl.drop (k+1))) (rs++[n]) cs (.slice sa sl sc) lv rs.length cs.length U.M:=by rw[am];exact(PI.splR _).symm
   have bl:Ua.frz.lg Ub.frz:=by rw[am];exact⟨W.imm,⟨[],rfl⟩,W.tok⟩
   clear am;refine⟨_,(PI.rd8 _ az).cell (i:=0) rfl,I1,?_⟩
   conv=>whnf
   rw[show((rs.length:Int)+1)=((rs++[n]).length:Nat) from S1];refine⟨rfl,PI.st8 _ (rs++[n]).length az λ U9 ap aw E=>?_⟩;refine tail _ _ _ _ _ U8 U9 ?_ hw H (ha.lg.frz2.trans (bl.trans ⟨λ x o h=>by show U9.I x=_;rw[ap];exact h,⟨[],rfl⟩,aw⟩)) E (by simp[rsN]) (by simp[csN]);exact T1
  .obtain⟨rfl,rfl⟩:=Value.iface.inj hw;have cw:JB cs n=false:=Zt3 (x:=csN (es.drop (k+1))) (by simpa[csN]using bi);refine Qo9 hu hd aq hz (t':=98) D1 (.inl rfl) ?_
   conv=>whnf
   refine Qzu c5 cg rfl ?_
   conv=>whnf
   intro bt ao;refine⟨_,.refl _,rfl,Zv (vs:=[.string n,.string m]) ao rfl (by simp[Value.single]) λ Ua ha ao=>?_⟩;have ab:=ha.own.trans al;refine⟨_,(PI.rd5 _ ab).cell (i:=0) rfl,_,(PI.rdb _ ab).cell (i:=3) rfl,_,ao.sees3 (o:=0) rfl,_,(PI.rd9 _ ab).cell (i:=0) rfl,?_⟩
   conv=>whnf
   intro Uc W _;have bd:=W.own.trans ab;refine⟨Zp7.any,(Zph i.cm cs n cw ((V++[Bd,D])++PI.preC i (Qdb (yl.drop (k+1))) (.slice sa sl sc) lv rs.length cs.length) _ (bd.trans (PI.splC _))).mono ?_⟩;rintro _ Ub am -;have az:Ub.M=(V++[Bd,D])++i.M (Qdb (yl.drop (k+1))) rs (cs++[n]) (.slice sa sl sc) lv rs.length cs.length U.M:=by rw[am];exact(PI.splC _).symm
   have bl:Ua.frz.lg Ub.frz:=by rw[am];exact⟨W.imm,⟨[],rfl⟩,W.tok⟩
   clear am;refine⟨_,(PI.rd9 _ az).cell (i:=0) rfl,I1,?_⟩
   conv=>whnf
   rw[show((cs.length:Int)+1)=((cs++[n]).length:Nat) from S1];refine⟨rfl,PI.st9 _ (cs++[n]).length az λ U9 ap aw E=>?_⟩;refine tail _ _ _ _ _ U8 U9 ?_ hw H (ha.lg.frz2.trans (bl.trans ⟨λ x o h=>by show U9.I x=_;rw[ap];exact h,⟨[],rfl⟩,aw⟩)) E (by simp[rsN]) (by simp[csN]);exact T1
  .refine Qo9 hu hd aq hz (t':=t) c9 (.inl rfl) ?_
   conv=>whnf
   refine Qo9 c5 cg co d4 (t':=t) da (.inl rfl) ?_
   conv=>whnf
   have E:U8.M=V++([Bd,D]++i.M (Qdb (yl.drop (k+1))) rs cs (.slice sa sl sc) lv rs.length cs.length U.M):=by rw[al,append_assoc]
   refine⟨_,(PI.rd6 _ (E.trans (append_assoc ..).symm)).cell (i:=0) rfl,?_⟩
   conv=>whnf
   intro bb an;refine Zi an λ ax P an=>?_;have Y:=P.own.trans E
   conv=>whnf
   refine Wn (v:=.slice sa sl sc) (cs:=vals) (new:=[.iface t u]) (M₀:=[Bd,D]++i.M (Qdb (yl.drop (k+1))) rs cs (.slice sa sl sc) lv rs.length cs.length U.M) Zrg rfl rfl (by rw[Y];exact hav _) (.inr ⟨_,rfl,an.rd⟩) rfl (by simp[Value.single]) (by rw[z.1];simp only[length_singleton];omega) λ v' M' bh _=>?_;obtain⟨V',rfl,a0⟩:=bh.split;obtain⟨ta,tl,tc,rfl,-⟩:=a0.src;refine⟨rfl,PI.st6 (V'++[Bd,D]) (.slice ta tl tc) rfl (append_assoc ..).symm λ ay ac ai Z=>?_⟩;refine⟨rfl,QZ.mono (K:=λ U'=>∃U1,Qv U' U1/\∃U2,Qv U1 U2/\_) (λ _⟨_,h1,U2,h2,h3⟩=>⟨U2,h1.trans h2,h3⟩) _ _ _ (PI.st7 (V'++[Bd,D]) (.iface t u) rfl Z λ F ad aj aa=>?_)⟩;refine⟨_,W3 (U:=F) (M':=Bd::D::i.M (Qdb (yl.drop (k+1))) rs cs (.slice ta tl tc) (.iface t u) rs.length cs.length (V'++U.M)) (by rw[aa,append_assoc];exact(i.perm _ _ _ _ _ _ _ V' U.M [Bd,D]).symm),?_⟩
   conv=>whnf
   have ag:U6.frz.lg F.frz:=H.trans (P.lg.frz2.trans ⟨λ x o h=>by show F.I x=_;rw[ad,ac];exact h,⟨[],rfl⟩,by show F.tok=_;rw[aj,ai];rfl⟩);have ak:Q32 F.frz e (.iface t u):=hw.lg (P.lg.frz2.trans ⟨λ x o h=>by show F.I x=_;rw[ad,ac];exact h,⟨[],rfl⟩,by show F.tok=_;rw[aj,ai];rfl⟩);exact hKN _ _ { F with M:=i.M (Qdb (yl.drop (k+1))) rs cs (.slice ta tl tc) (.iface t u) rs.length cs.length (V'++U.M) } ⟨⟨.slice ta tl tc,.iface t u,vals++[.iface t u],V',some e,by rw[Qzv he,Ztb,Zs0,bp,bj,er,ec,append_nil,append_nil],a0,by rw[Qzv he];exact(z.lg ag).snoc ak,ak,hfo.2⟩,ah.trans ag⟩
 .rintro d l A U5 ⟨⟨av,lv,vals,V,la,hP,hav,hvals,-,-⟩,hl5⟩;rw[ht.1,take_length]at hP hvals;obtain⟨sa,sl,sc,rfl,c0⟩:=hav.src
  have ae:(U5.on (.obj l A) (.obj d (.deferred (some [])))).M.Perm ((V++[.obj l A,.obj d (.deferred (some []))])++i.M (Qdb (yl.drop es.length)) (rsN es) (csN es) (.slice sa sl sc) lv (rsN es).length (csN es).length U.M):=by
   rw[append_assoc];exact Perm.trans ((hP.cons _).cons _) (i.perm _ _ _ _ _ _ _ V U.M [.obj l A,.obj d (.deferred (some []))])
  have ah:U4.frz.lg (U5.on (.obj l A) (.obj d (.deferred (some [])))).frz:=hl5.trans ⟨λ _ _ h=>h,⟨[],rfl⟩,rfl⟩;have z:Zor (U5.on (.obj l A) (.obj d (.deferred (some [])))).frz es vals:=hvals;clear hvals hP hl5;generalize(U5.on (.obj l A) (.obj d (.deferred (some []))))=U6 at ae ah z ⊢;have dw:=z.1;obtain rfl:sl=es.length:=by rw[Nat.mul_one]at c0;omega
  have be:Rdg U6 i.rb i.rm i.cm 0 [] [] none (i.oth (Qdb (yl.drop es.length)) (rsN es) (csN es) (.slice sa es.length sc) lv (rsN es).length (csN es).length (V++[.obj l A,.obj d (.deferred (some []))]) U.M):=
   ⟨none,0,0,none,0,0,[],[],[],[],[],.nil,.nil,.nil,⟨rfl,rfl⟩,S1,S1,ae.trans (i.othP _ _ _ _ _ _ _ _ _)⟩
  obtain⟨M2,N⟩:∃M2,M2=i.oth (Qdb (yl.drop es.length)) (rsN es) (csN es) (.slice sa es.length sc) lv (rsN es).length (csN es).length (V++[.obj l A,.obj d (.deferred (some []))]) U.M:=⟨_,rfl⟩;rw[<- N]at be;have m6:.cl i.b6 [.slice sa es.length sc] 85∈M2:=by rw[N];simp[PI.oth]
  have m5:.cl i.b5 [.pb i.rb] 80∈M2:=by rw[N];simp[PI.oth]
  have c7:Qw.obj i.rm (Qt Value.string (ZO 0 (rsN es)))∈M2:=by rw[N];simp[PI.oth]
  have c6:Qw.obj i.cm (Qt Value.string (ZO 0 (csN es)))∈M2:=by rw[N];simp[PI.oth]
  have mV:∀r∈V,r∈M2:=λ r hr=>by rw[N];simp[PI.oth,hr]
  clear ae;refine⟨_,(Jz (be.mem m6)).cell (i:=0) rfl,Nat,λ y=>[(2,.pb i.b2),(3,.pb i.b3),(4,.pb i.b4),(5,.pb i.b5),(77,.slice sa es.length sc),(78,.int .i64 es.length),(79,.int .i64 y)],λ y U'=>(∃s ln,Qzw (rsN es) (csN es) s (es.drop y) B/\Rdg U' i.rb i.rm i.cm ln s.1 s.2.1 s.2.2 M2)/\U6.frz.lg U'.frz/\y<=es.length,λ y=>es.length-y,0,T1,⟨⟨_,_,bn,be⟩,⟨λ _ _ h=>h,⟨[],rfl⟩,rfl⟩,O1⟩,?_⟩;rintro y f U7⟨⟨⟨rs,cs,cur⟩,ln,au,hR⟩,a2,hy⟩;simp only at hR;have aq:Ja ((y:Int)+1):=I1
  repeat refine⟨rfl,?_⟩
  conv=>whnf
  apply Qg<;>intro hc
  .have a7:y<es.length:=by simpa using hc
   clear hc;obtain⟨e,he⟩:∃e,es[y]?=some e:=⟨_,getElem?_eq_getElem a7⟩;have a1:=bm e (mem_of_getElem? he);obtain⟨v,hv,ch⟩:=z.2 y e he;obtain⟨bV,cV,lV,d6,e1,e2,e3,e4,eV,dr⟩:=hav.blk (λ h=>by rw[h]at hv;simp at hv);cases e1
   have cz:U7.sees ((Addr.mk bV 0 none).add (y*1)) v:=by
    rw[Nat.mul_one];exact(Jz (vs:=cV.toList) (e:=87) (hR.mem (mV _ (by rw[eV];exact mem_cons_self ..)))) y v (by simpa using dr y v hv)
   rw[Zqh he]at au;obtain⟨s1,d2,au⟩:=au;obtain⟨t,u,rfl⟩:=ch.iface;refine⟨⟨bV,0,none⟩,y,⟨rfl,rfl,a7⟩,_,cz,_,(Jz (hR.mem m5)).cell (i:=0) rfl,aq,rfl,hR.line ((y:Int)+1) λ U8 H ce=>?_⟩;refine⟨_,(Jz (ce.mem m5)).cell (i:=0) rfl,Znc.any,(Zr3 d2 (ch.lg (a2.trans H)) ce hr bi c7 c6).mono ?_⟩;rintro _ U9⟨dc,a3⟩-;refine⟨aq,?_⟩
   conv=>whnf
   exact⟨rfl,y+1,T1,⟨⟨_,_,au,dc⟩,a2.trans (H.trans a3),by show y+1<=_;omega⟩,L1⟩
  have dt:y=es.length:=by
   have:(es.length:Int)<=y:=by simpa using hc
   omega
  subst dt;clear hc aq;rw[drop_length]at au;obtain rfl:((rs,cs,cur):RSt)=B:=au;obtain⟨q,hX⟩:=hR.opn;clear hR;refine⟨_,(Jz (hX.mem m5)).cell (i:=0) rfl,?_⟩
  conv=>whnf
  have cy:=Jz hX.cell;refine⟨[.slice q.ra q.rl q.rc,.slice q.ca q.cl q.cc],⟨rfl,λ k v hv=>?_⟩,?_⟩
  .have hk2:k<2:=(List.getElem?_eq_some_iff.1 hv).1;refine cy k v ?_;rcases(by omega:k=0\/k=1)with rfl|rfl <;> exact hv
  refine⟨K6.any,(hX.calls (Q:=λ v U''=>v=.int .i64 (Bk.flaw Zh ⟨rs,cs++cur.toList⟩)/\U7.frz.lg U''.frz/\U''.M=.obj i.rb (.cells (rdC (.slice q.ra q.rl q.rc) (.slice q.ca q.cl q.cc) i.rm i.cm ln).toArray 84 (0,0))::M2/\Zq U''.frz q ⟨rs,cs++cur.toList⟩/\q.rl<=q.rc) c8 d1 dq λ U' hl hM hB bo=>(Yt q ⟨rs,cs++cur.toList⟩ (hB.lg Qr) (hk.imI λ x o h=>hl.imm x o (a2.imm x o (ah.imm x o (bk.imm x o h))))).mono λ v U''⟨e1,e2⟩=>⟨e1,by rw[e2];exact⟨hl,hM,hB,bo⟩⟩).mono ?_⟩;rintro _ U8⟨rfl,H,al,hB,bo⟩-;rw[ds]
  have E:U8.M=(.obj i.rb (.cells (rdC (.slice q.ra q.rl q.rc) (.slice q.ca q.cl q.cc) i.rm i.cm ln).toArray 84 (0,0))::(V++[.obj l A]))++.obj d (.deferred (some []))::(i.preO (Qdb (yl.drop es.length)) (rsN es) (csN es) (.slice sa es.length sc) lv (rsN es).length (csN es).length++i.post U.M):=by
   rw[al,N,i.oth_post];rfl
  have n5:.cl i.b5 [.pb i.rb] 80∈i.preO (Qdb (yl.drop es.length)) (rsN es) (csN es) (.slice sa es.length sc) lv (rsN es).length (csN es).length:=by simp[PI.preO]
  generalize i.preO (Qdb (yl.drop es.length)) (rsN es) (csN es) (.slice sa es.length sc) lv (rsN es).length (csN es).length=Y2 at E n5;obtain⟨Y1,bg⟩:∃Y1,Y1=.obj i.rb (.cells (rdC (.slice q.ra q.rl q.rc) (.slice q.ca q.cl q.cc) i.rm i.cm ln).toArray 84 (0,0))::(V++[.obj l A]):=⟨_,rfl⟩;have d5:Qw.obj i.rb (.cells (rdC (.slice q.ra q.rl q.rc) (.slice q.ca q.cl q.cc) i.rm i.cm ln).toArray 84 (0,0))∈Y1:=by rw[bg];exact mem_cons_self ..
  rw[<- bg]at E;have dv:U.frz.lg U8.frz:=bk.trans (ah.trans (a2.trans H));clear bg al cy hX H a2 ah bk m6 m5 c7 c6 mV N z dw hav c0;refine⟨rfl,_,(Jz (b:=i.b5) (e:=80) (vs:=[.pb i.rb]) (by rw[E];simp[n5])).cell (i:=0) rfl,?_⟩;refine⟨[.slice q.ra q.rl q.rc,.slice q.ca q.cl q.cc],⟨rfl,λ k v hv=>?_⟩,?_⟩
  .have hk2:k<2:=(List.getElem?_eq_some_iff.1 hv).1;refine Jz (b:=i.rb) (e:=84) (vs:=rdC (.slice q.ra q.rl q.rc) (.slice q.ca q.cl q.cc) i.rm i.cm ln) (by rw[E];simp[d5]) k v ?_;rcases(by omega:k=0\/k=1)with rfl|rfl <;> exact hv
  refine⟨rfl,Wd (e:=25) (c:=[.nl,.nl].toArray) (vs:=[.slice q.ra q.rl q.rc,.slice q.ca q.cl q.cc]) (Y1++.obj d (.deferred (some []))::(Y2++[.cl i.b4 [.int .i64 0] 28,.cl i.b3 [.int .i64 0] 3])) (M₀:=U.M) (by rw[E];simp[PI.post]) rfl (by simp[Value.single]) λ U9 ap aw Y=>?_⟩;have Z:U9.M=(Y1++.obj d (.deferred (some []))::(Y2++[.cl i.b4 [.int .i64 0] 28]))++.cl i.b3 [.int .i64 0] 3::.cl i.b2 [.slice q.ra q.rl q.rc,.slice q.ca q.cl q.cc] 25::U.M:=by rw[Y];simp
  have cq:U8.frz.lg U9.frz:=⟨λ x o h=>by show U9.I x=_;rw[ap];exact h,⟨[],rfl⟩,aw⟩;clear Y E ap aw;refine⟨rfl,Wd (c:=[.int .i64 0].toArray) (vs:=[.int .i64 0]) _ Z rfl (by simp[Value.single]) λ ax hI ht hM=>?_⟩;have aa:ax.M=(Y1++.obj d (.deferred (some []))::Y2)++.cl i.b4 [.int .i64 0] 28::.cl i.b3 [.int .i64 0] 3::.cl i.b2 [.slice q.ra q.rl q.rc,.slice q.ca q.cl q.cc] 25::U.M:=by rw[hM];simp
  have a8:U8.frz.lg ax.frz:=cq.trans ⟨λ x o h=>by show ax.I x=_;rw[hI];exact h,⟨[],rfl⟩,ht⟩;clear hM hI ht Z cq;refine⟨rfl,Wd (c:=[.int .i64 0].toArray) (vs:=[.int .i64 0]) _ aa rfl (by simp[Value.single]) λ ay hI ht hM=>?_⟩;have bx:ay.M=Y1++.obj d (.deferred (some []))::(Y2++.cl i.b4 [.int .i64 0] 28::.cl i.b3 [.int .i64 0] 3::.cl i.b2 [.slice q.ra q.rl q.rc,.slice q.ca q.cl q.cc] 25::U.M):=by rw[hM];simp
  have a9:U8.frz.lg ay.frz:=a8.trans ⟨λ x o h=>by show ay.I x=_;rw[hI];exact h,⟨[],rfl⟩,ht⟩;clear hM hI ht aa a8;refine⟨Y1++.obj d (.deferred none)::(Y2++.cl i.b4 [.int .i64 0] 28::.cl i.b3 [.int .i64 0] 3::.cl i.b2 [.slice q.ra q.rl q.rc,.slice q.ca q.cl q.cc] 25::U.M),by rw[bx];exact P0 .here Y1,?_⟩;refine⟨Zwj.any,Zr2 (.pb i.b2) (.pb i.b3) (.pb i.b4) S1 ?_⟩;have bz:Y1++.obj d (.deferred none)::(Y2++.cl i.b4 [.int .i64 0] 28::.cl i.b3 [.int .i64 0] 3::.cl i.b2 [.slice q.ra q.rl q.rc,.slice q.ca q.cl q.cc] 25::U.M)=(Y1++.obj d (.deferred none)::(Y2++[.cl i.b4 [.int .i64 0] 28,.cl i.b3 [.int .i64 0] 3,.cl i.b2 [.slice q.ra q.rl q.rc,.slice q.ca q.cl q.cc] 25]))++U.M:=S1
  rw[bz];obtain⟨Y3,a6⟩:∃Y3,Y3=Y1++.obj d (.deferred none)::(Y2++[.cl i.b4 [.int .i64 0] 28,.cl i.b3 [.int .i64 0] 3,.cl i.b2 [.slice q.ra q.rl q.rc,.slice q.ca q.cl q.cc] 25]):=⟨_,rfl⟩;have k2:.cl i.b2 [.slice q.ra q.rl q.rc,.slice q.ca q.cl q.cc] 25∈Y3++U.M:=by rw[a6];simp
  have k3:.cl i.b3 [.int .i64 0] 3∈Y3++U.M:=by rw[a6];simp
  have k4:.cl i.b4 [.int .i64 0] 28∈Y3++U.M:=by rw[a6];simp
  rw[<- a6];refine⟨_,⟨rfl,Jz k2⟩,?_⟩
  conv=>whnf
  refine⟨_,(Jz k3).cell (i:=0) rfl,?_⟩
  conv=>whnf
  refine⟨_,(Jz k4).cell (i:=0) rfl,?_⟩
  conv=>whnf
  exact⟨⟨q,rfl,hB.lg a9,bo⟩,dv.trans a9,Y3,Perm.refl _⟩
end
def Zrk(s x:ByteArray):∀(b:List ByteArray),Qal s (b++[x])=Qal s (b++[ByteArray.empty])++x
 |[]=>by show x=ByteArray.empty++x;simp
 |[y]=>by show y++s++x=y++s++ByteArray.empty++x;simp
 |y::z::r=>by
  have:=Zrk s x (z::r);show Qal s (y::z::(r++[x]))=Qal s (y::z::(r++[ByteArray.empty]))++x;rw[Qo5,Qo5];show y++s++Qal s (z::r++[x])=y++s++Qal s (z::r++[ByteArray.empty])++x;rw[this];simp[ByteArray.append_assoc]
def Zs7(c:UInt8)(m:Nat):∀{l:List ByteArray},(∀x∈l,x.size<=m)->(Qal (byB c) l).size<=l.length*(m+1)
 |[],_=>by simp[Qal]
 |[x],h=>by have:=h x (mem_cons_self ..);show x.size<=1*(m+1);omega
 |x::y::r,h=>by
  have f:=h x (mem_cons_self ..);have w:=Zs7 c m (l:=y::r) λ z b=>h z (mem_cons_of_mem _ b);rw[Qo5,Qvj,length_cons,Nat.add_mul];omega
variable{s:ByteArray}
section
attribute [local irreducible] Qb Zp Wv
def Q36(h:Bld U b8 s M₀)(w:ByteArray)(a:Option Addr)(f:List ByteArray)(ab:Src U.frz a (f.map Value.string))(hw:w.size<=10)(hf:∀x∈f,x.size<=1000)(ae:f.length<=3)(hs:s.size<=500000) :
  Qb S 25 #[.string w,.slice a f.length f.length,.pb b8] (λ _ U'=>Bld U' b8 (s++(Zjy w f++byB 10)) M₀/\U.frz.lg U'.frz) U:=by
 refine Qb.of (args:=[_,_,_]) Zmq Qf S1 ?_
 conv=>whnf
 refine Zuc (a:=w) (b:=byB 58) rfl rfl (by rw[Qbd];omega) ?_
 conv=>whnf
 intro bb F;refine Zi F λ H E F=>?_
 conv=>whnf
 refine Db (sa:=a) (sl:=f.length) (cs:=f.map Value.string) (new:=[.string ⟨#[10]⟩]) wB rfl rfl (Src.lg' ab (Qa.lg.frz2 E.lg|>.trans Qr)) S1 (.inr ⟨_,rfl,F.rd⟩) rfl S3 (λ h=>by cases h) (λ _ B c cap Y Q ac X=>?_);have G:=Gj (o:=.cells c 9) Y;have P:Zj ({ H with I:=Z_ H.I B (.cells c 9) }:Qa T) B c:=Zj.new;obtain⟨K,L⟩:∃K:Qa T,K={ H with I:=Z_ H.I B (.cells c 9) }:=⟨_,rfl⟩;rw[<- L]at G P;have aa:Qv (H.put B (.cells c 9)) K:=by rw[L];exact Wa (b:=B) (M':=H.M) (Perm.refl _)
 have V:Qi9 K.frz (some ⟨B,0,none⟩) (f.length+1) (f++[byB 10]):=by
  have h0:=Zpd (U:=K.frz) (rs:=f++[byB 10]) (a:=some ⟨B,0,none⟩) (.inr ⟨_,rfl,λ k v hv=>?_⟩) (λ ad e=>by cases e;rfl)
  .rw[length_append]at h0;exact h0
  .have hv':(f.map Value.string++[.string ⟨#[10]⟩])[k]?=some v:=by simpa[byB]using hv
   have:=P.imI (U':=K.frz) (λ _ _ h=>h);exact this.reads (vs:=f.map Value.string++[.string ⟨#[10]⟩]) (λ k v hv=>by rw[Nat.zero_add];exact X k v hv) k v hv'
 refine⟨Zp4.any,(Qb.shift aa (Zow (some ⟨B,0,none⟩) (f.length+1) cap (f++[byB 10]) V O1 Q (λ x z=>?_) (byB 59) (by rw[Qbd]))).mono ?_⟩
 .rcases mem_append.1 z with z|z
  .exact hf x z
  .rw[mem_singleton.1 z,Qbd];omega
 rintro _ U3⟨rfl,N⟩-
 have hj:(Qal (byB 59) (f++[byB 10])).size<=5000:=by
  have:=Zs7 59 1000 (l:=f++[byB 10]) λ x z=>by
   rcases mem_append.1 z with z|z
   .exact hf x z
   .rw[mem_singleton.1 z,Qbd];omega
  rw[length_append]at this;simp only[length_singleton]at this;omega
 conv=>whnf
 refine Zuc (a:=w++byB 58) (b:=Qal (byB 59) (f++[byB 10])) rfl rfl (by rw[ByteArray.size_append,Qbd];omega) ?_
 conv=>whnf
 have e0:w++byB 58++Qal (byB 59) (f++[byB 10])=Zjy w f++byB 10:=by
  rw[Zrk];show _=w++byB 58++Qal (byB 59) (f++[ByteArray.empty])++byB 10;simp[ByteArray.append_assoc]
 rw[e0];refine⟨Zm8.any,(Qf1 (((h.le E).le G).le N) (by rw[<- e0,ByteArray.size_append,ByteArray.size_append,Qbd];omega)).mono ?_⟩;rintro _ U4⟨W,Z⟩-
 conv=>whnf
 exact⟨W,E.lg.frz2.trans (G.lg.frz2.trans (N.lg.frz2.trans Z))⟩
def Zo3(g:FuncId)(hg:(prog.funcs[g]?.any λ fd=>fd.body.isSome&&fd.name != "runtime.NumGoroutine")=true)(p:Value)(a:Option Addr)(len cap:Nat)(ls:List Int)(nm:List ByteArray)(hi:Z3 U.frz a len ls)(hn:nm.length=ls.length)
  (Z:∀(U':Qa T)(i:Nat)(x:Int)(y:ByteArray),U.frz.lg U'.frz->ls[i]?=some x->nm[i]?=some y->Qb S g #[.int .i64 x,p] (λ v U''=>v=.string y/\U''=U') U') (hl:len<=50) (hs:∀s∈nm,s.size<=1000) :
  Qb S 28 #[.slice a len cap,.func (.func g) #[] #[p]] (λ v U'=>v=.string (Qal (byB 44) nm)/\U.le U') U:=by
 refine Qb.of (args:=[_,_]) Zp5 Qf S1 ?_;refine⟨Nat×Value,λ y=>[(0,.slice a len cap),(1,.func (.func g) #[] #[p]),(5,y.2),(8,.slice a len cap),(9,.int .i64 len),(10,.int .i64 y.1)],λ y U'=>Acc 9 1 y.2 ((nm.take y.1).map Value.string) U'.M U.M/\U.frz.lg U'.frz/\y.1<=len,λ y=>len-y.1,(0,.nl),T1,⟨.nil,⟨λ _ _ h=>h,⟨[],rfl⟩,rfl⟩,O1⟩,?_⟩;rintro⟨i,v⟩f U1⟨w,z,ab⟩;simp only at w ab;have I:Ja ((i:Int)+1):=I1
 obtain⟨sa,sl,sc,rfl,-⟩:=w.src;have ac:=hi.1
 repeat refine⟨rfl,?_⟩
 conv=>whnf
 apply Qg<;>intro V
 .have hlt:i<len:=by simpa using V
  clear V;obtain⟨ad,x,hx,ea,ae,K⟩:=(hi.lg z).at hlt;obtain⟨y,hy⟩:∃y,nm[i]?=some y:=⟨_,getElem?_eq_getElem O1⟩;refine⟨ad,i,⟨ea,rfl,hlt⟩,_,K.lg Qr,hg,(Z U1 i x y z hx hy).mono ?_⟩;rintro _ Q⟨rfl,Y⟩-;obtain rfl:=Y.symm
  conv=>whnf
  intro bb E;refine Zi E λ Q B E=>?_;have et:(nm.take (i+1)).map Value.string=(nm.take i).map Value.string++[.string y]:=by rw[take_add_one,hy];simp
  have ag:(nm.take i).length<=50:=by rw[length_take];omega
  conv=>whnf
  refine Wn (v:=.slice sa sl sc) (cs:=(nm.take i).map Value.string) (new:=[.string y]) (M₀:=U.M) wB rfl rfl (by rw[B.own];exact w) (.inr ⟨_,rfl,E.rd⟩) rfl (by simp[Value.single]) (by rw[length_map];simp;omega) λ v' M' G _=>?_;obtain⟨ta,tl,tc,rfl,-⟩:=Acc.src (U:={ Q with M:=M' }) G;refine⟨I,rfl,(i+1,.slice ta tl tc),T1,⟨?_,⟨λ y o h=>B.imm y o (z.imm y o h),⟨[],rfl⟩,B.tok.trans z.tok⟩,by show i+1<=_;omega⟩,L1⟩;show Acc 9 1 _ ((nm.take (i+1)).map _) M' U.M;rw[et];exact G
 have aa:i=len:=by
  have:(len:Int)<=i:=by simpa using V
  omega
 subst aa;clear V I;rw[take_of_length_le O1]at w
 have H:sl<=sc:=by
  rcases w with⟨e,-,-⟩|⟨b,c,P,F,e,W,X,-⟩
  .cases e;exact Nat.le_refl _
  .cases e;exact X
 refine⟨Zp4.any,(Qb.sep0 λ L=>?_:Qb S 27 #[.slice sa sl sc,.string ⟨#[44]⟩] (λ v U'=>v=.string (Qal (byB 44) nm)/\U.le U') U1).mono ?_⟩
 .obtain⟨Q,k1,k2,a',P,F,e,W,X,h3,-⟩:=w.freeze L z.imm z.tok;cases e;rw[length_map,Nat.mul_one]at W;have N:=Zpd X h3;rw[W]at N;exact Qb.shift k1 ((Zow sa sl sc nm N O1 H hs (byB 44) (by rw[Qbd])).mono λ v U' h=>⟨h.1,k2.trans h.2⟩)
 rintro _ Q⟨rfl,B⟩-
 conv=>whnf
 exact⟨rfl,B⟩
end
variable{es l r:List Ent}
def nmR(b:Bk)(i:Int):ByteArray:=b.rs.getD i.toNat ByteArray.empty
def nmC(b:Bk)(i:Int):ByteArray:=(b.cs.map (·.nm)).getD i.toNat ByteArray.empty
def Bk.entsC(b:Bk)(c:Cs):List Ent:=.cs c.nm (nmR b c.ag)::(c.gs.map λ g=>.gr (g.map (nmR b)))++(if c.af=[]then[]else[.af (c.af.map (nmC b))])
def Bk.ents(b:Bk):List Ent:=b.rs.map .rt++b.cs.flatMap b.entsC
def lnE(e:Ent):ByteArray:=e.line++byB 10
def Qeg(es:List Ent):ByteArray:=Qdb (es.map lnE)
def Zqg:∀(l r:List ByteArray),Qdb (l++r)=Qdb l++Qdb r
 |[],r=>by show Qdb r=ByteArray.empty++Qdb r;simp
 |x::l,r=>by
  show x++Qdb (l++r)=(x++Qdb l)++Qdb r;rw[Zqg l r,ByteArray.append_assoc]
def Ztf(l r:List Ent):Qeg (l++r)=Qeg l++Qeg r:=by
 unfold Qeg;rw[map_append,Zqg]
def Zxa(e:Ent):Qeg [e]=e.line++byB 10:=by
 show(e.line++byB 10)++ByteArray.empty=_;simp
def Zj2(l:List Ent)(e:Ent):Qeg l++(e.line++byB 10)=Qeg (l++[e]):=by rw[Ztf,Zxa]
def Zpo(h:l++r=es)(b:(Qeg es).size<=b8):(Qeg l).size<=b8:=by
 rw[<- h,Ztf,ByteArray.size_append]at b;omega
variable{h:BH}{b:Bk}{bb:Nat}
section
attribute [local irreducible] Qb Zp Wv
def Zst(G:Zq U.frz h b)(B:Zj U bb #[.slice h.ra h.rl h.rc,.slice h.ca h.cl h.cc])(i:Int)(P:0<=i)(f:i<b.nr) :
  Qb S 29 #[.int .i64 i,.pb bb] (λ v U'=>v=.string (nmR b i)/\U'=U) U:=by
 refine Qb.of (args:=[_,_]) Zsc Qf S1 ?_;obtain⟨n,rfl⟩:∃n:Nat,i=n:=⟨i.toNat,O1⟩
 have f:n<h.rl:=by
  have:=G.rs.1;unfold Bk.nr at f;omega
 obtain⟨z,s,I,H,F,w,-⟩:=G.right f
 have e:nmR b n=s:=by
  show b.rs.getD n _=s;simp[getD_eq_getElem?_getD,I]
 have E:U.sees (z.add (n*1)) (.string s):=by
  obtain⟨K,L,N⟩:=z;cases F;simp only[Qo,Nat.add_zero]at w ⊢;exact w.lg Qr
 rw[e];refine⟨_,B.sees3 (o:=0) rfl,z,n,⟨H,rfl,f⟩,_,E,?_⟩
 conv=>whnf
 exact⟨rfl,rfl⟩
def Zss(E:Zq U.frz h b)(w:Zj U bb #[.slice h.ra h.rl h.rc,.slice h.ca h.cl h.cc])(i:Int)(K:0<=i)(f:i<b.nc) :
  Qb S 30 #[.int .i64 i,.pb bb] (λ v U'=>v=.string (nmC b i)/\U'=U) U:=by
 refine Qb.of (args:=[_,_]) Zsd Qf S1 ?_;obtain⟨n,rfl⟩:∃n:Nat,i=n:=⟨i.toNat,O1⟩
 have f:n<h.cl:=by
  have:=E.cs.1;unfold Bk.nc at f;omega
 obtain⟨F,c,ga,gl,gc,I,al,ac,H,z,G,B,-⟩:=E.case f
 have e:nmC b n=c.nm:=by
  show(b.cs.map (·.nm)).getD n _=_;simp[getD_eq_getElem?_getD,H]
 rw[e];refine⟨_,w.sees3 (o:=1) rfl,F,n,⟨z,rfl,f⟩,_,(B 0 _ rfl).lg Qr,?_⟩
 conv=>whnf
 exact⟨rfl,rfl⟩
def Zqu(h:BH)(b:Bk)(hb:Zq U.frz h b)(hk:JY U)(b3:b.flaw Zh=0)(a7:(Qeg b.ents).size<=50000)(bs:∀s∈b.rs,s.size<=10)(b0:∀c∈b.cs,c.nm.size<=10) :
  Qb S 7 #[h.v] (λ v U'=>v=.tuple #[.string (Qeg b.ents),.int .i64 0]/\U'.M=U.M/\U.frz.lg U'.frz) U:=by
 have Z:=Bk.ok_of b3;have c8:=hb.rs.1;have c3:=hb.cs.1;refine Qb.of (args:=[_]) Zpl Qf S1 ?_
 conv=>whnf
 intro b1 U1 aq bo;have bi:Jj U1 ⟨b1,0,none⟩ [.slice h.ra h.rl h.rc,.slice h.ca h.cl h.cc]:=bo.rd;refine⟨_,⟨rfl,bi⟩,K6.any,(Yt h b (((hb.lg aq.lg.frz2)).lg Qr) (hk.lg aq.lg)).go λ _=>?_⟩;rw[b3];refine⟨rfl,?_⟩
 conv=>whnf
 intro b5 ct;refine⟨_,.refl _,?_⟩
 conv=>whnf
 have bz:Bld (U1.put b5 (.cells #[.pointer none,.nl] 64)) b5 ByteArray.empty U.M:=⟨.pointer none,.nl,[],.inl rfl,.nil,.inr rfl,by show Perm (_::U1.M) _;rw[aq.own];exact Perm.refl _⟩;have bp:=aq.lg.frz2.trans (Z2 (U:=U1) b5 (.cells #[.pointer none,.nl] 64)).frz2;have av:=(Zj.imI (U':=U1.put b5 (.cells #[.pointer none,.nl] 64)) bo λ _ _ h=>h);generalize(U1.put b5 (.cells #[.pointer none,.nl] 64))=U2 at bz bp av ⊢;clear bo bi aq ct;have ay:Zq U2.frz h b:=hb.lg bp;have hB:=av;clear av;refine⟨_,hB.sees3 (o:=0) rfl,Nat,λ y=>[(1,.pb b1),(5,.pb b5),(6,.func (.func 25) #[] #[.pb b5]),(7,.func (.func 28) #[] #[]),(21,.slice h.ra h.rl h.rc),(22,.int .i64 h.rl),(23,.int .i64 y)],λ y U'=>Bld U' b5 (Qeg ((b.rs.take y).map Ent.rt)) U.M/\U2.frz.lg U'.frz/\y<=h.rl,λ y=>h.rl-y,0,T1,⟨bz,⟨λ _ _ h=>h,⟨[],rfl⟩,rfl⟩,O1⟩,?_⟩;rintro y f U3⟨w,I,hy⟩;have an:Ja ((y:Int)+1):=by have:=Z.nr;unfold Ja;omega
 have W:Zj U3 b1 #[.slice h.ra h.rl h.rc,.slice h.ca h.cl h.cc]:=hB.imI I.imm
 repeat refine⟨rfl,?_⟩
 conv=>whnf
 apply Qg<;>intro L
 .have K:y<h.rl:=by simpa using L
  clear L;obtain⟨ad,s,P,ea,cf,bj,B⟩:=(ay.lg I).right K
  have a6:U3.sees (ad.add (y*1)) (.string s):=by
   obtain⟨ab,ao,ap⟩:=ad;cases cf;simp only[Qo,Nat.add_zero]at bj ⊢;exact bj.lg Qr
  have N:(b.rs.take y).map Ent.rt++((b.rs.drop y).map Ent.rt++b.cs.flatMap b.entsC)=b.ents:=by rw[<- append_assoc,<- map_append,take_append_drop];rfl
  have e1:Qeg ((b.rs.take y).map Ent.rt)++(Zjy ⟨#[114,105,103,104,116]⟩ [s]++byB 10)=Qeg ((b.rs.take (y+1)).map Ent.rt):=by
   rw[take_add_one,P,map_append];exact Zj2 _ (.rt s)
  refine⟨ad,y,⟨ea,rfl,K⟩,_,a6,?_⟩
  conv=>whnf
  intro bb G;refine Zi G λ U4 Q G=>?_;refine⟨Zmq.any,(Q36 (w.le Q) _ (some ⟨bb,0,none⟩) [s] (.inr ⟨_,rfl,(Zj.imI (U':=U4.frz) G λ _ _ h=>h).rd⟩) D1 (λ x P=>by rw[mem_singleton.1 P];have:=bs s B;omega) (by show 1<=3;omega) (by have:=Zpo N a7;omega)).mono ?_⟩;rintro _ U5⟨aj,a2⟩-;rw[e1]at aj;refine⟨an,?_⟩
  conv=>whnf
  exact⟨rfl,y+1,T1,⟨aj,I.trans (Q.lg.frz2.trans a2),by show y+1<=_;omega⟩,L1⟩
 have az:y=h.rl:=by
  have:(h.rl:Int)<=y:=by simpa using L
  omega
 subst az;clear L an;rw[take_of_length_le O1]at w;refine⟨_,W.sees3 (o:=1) rfl,Nat,λ y=>[(1,.pb b1),(5,.pb b5),(6,.func (.func 25) #[] #[.pb b5]),(7,.func (.func 28) #[] #[]),(33,.slice h.ca h.cl h.cc),(34,.int .i64 h.cl),(35,.int .i64 y)],λ y U'=>Bld U' b5 (Qeg (b.rs.map Ent.rt++(b.cs.take y).flatMap b.entsC)) U.M/\U2.frz.lg U'.frz/\y<=h.cl,λ y=>h.cl-y,0,T1,⟨by simpa using w,I,O1⟩,?_⟩;clear W I w hy;clear U3 f;rintro y f U3⟨w,I,hy⟩;have an:Ja ((y:Int)+1):=by have:=Z.nc;unfold Ja;omega
 have W:Zj U3 b1 #[.slice h.ra h.rl h.rc,.slice h.ca h.cl h.cc]:=hB.imI I.imm
 repeat refine⟨rfl,?_⟩
 conv=>whnf
 apply Qg<;>intro L
 .have K:y<h.cl:=by simpa using L
  clear L;obtain⟨ad,c,ga,gl,gc,aa,al,ac,P,ea,cf,b9,b6,c6,bw,c2,B⟩:=(ay.lg I).case K;obtain⟨c0,cm⟩:=Z.ag c B
  have N:(b.rs.map Ent.rt++(b.cs.take y).flatMap b.entsC)++(b.entsC c++(b.cs.drop (y+1)).flatMap b.entsC)=b.ents:=by
   rw[append_assoc,<- flatMap_cons,<- Zqh P,<- flatMap_append,take_append_drop];rfl
  have a5:(b.rs.map Ent.rt++(b.cs.take y).flatMap b.entsC)++b.entsC c=b.rs.map Ent.rt++(b.cs.take (y+1)).flatMap b.entsC:=by
   rw[append_assoc,Qzv P,flatMap_append];simp
  generalize(b.rs.map Ent.rt++(b.cs.take y).flatMap b.entsC)=pre at w N a5;refine⟨ad,y,⟨ea,rfl,K⟩,_,⟨rfl,b9.lg Qr⟩,?_⟩
  conv=>whnf
  intro bn ba;refine⟨_,.refl _,rfl,Zv (vs:=[.string c.nm,.int .i64 c.ag,.slice ga gl gc,.slice aa al ac]) ba rfl (by simp[Value.single]) λ U4 Q F=>?_⟩;have a1:U2.frz.lg U4.frz:=I.trans Q.lg.frz2;have bt:Zj U4 b1 #[.slice h.ra h.rl h.rc,.slice h.ca h.cl h.cc]:=W.le Q;have ai:=w.le Q;clear ba w W;obtain⟨q,hq⟩:∃q:Nat,c.ag=q:=⟨c.ag.toNat,O1⟩;have bh:q<h.rl:=by unfold Bk.nr at cm;omega
  obtain⟨bm,s,cw,cp,ch,ah,bq⟩:=(ay.lg a1).right bh
  have a6:U4.sees (bm.add (q*1)) (.string s):=by
   obtain⟨ab,ao,ap⟩:=bm;cases ch;simp only[Qo,Nat.add_zero]at ah ⊢;exact ah.lg Qr
  have cq:nmR b c.ag=s:=by
   rw[hq];show b.rs.getD q _=s;simp[getD_eq_getElem?_getD,cw]
  rw[hq]at F;refine⟨_,F.sees3 (o:=0) rfl,_,bt.sees3 (o:=0) rfl,_,F.sees3 (o:=1) rfl,bm,q,⟨cp,rfl,bh⟩,_,a6,λ v U'=>∃V,v=.slice (some ⟨V,0,none⟩) 2 2/\Zj U' V #[.string c.nm,.string s],λ v x y⟨V,e,hb⟩b7=>⟨V,e,hb.le b7⟩,λ U' b7 _=>?_,λ v hv=>?_⟩
  .conv=>whnf
   intro V b2;exact Zi b2 λ U5 au hb=>⟨U5,.refl _,⟨V,rfl,hb⟩,au⟩
  obtain⟨_,-,-,V,rfl,-⟩:=hv
  conv=>whnf
  intro U5 au hC;obtain⟨-,cx,e,bc⟩:=hC;cases e
  have e1:Qeg pre++(Zjy ⟨#[99,97,115,101]⟩ [c.nm,s]++byB 10)=Qeg (pre++[.cs c.nm (nmR b c.ag)]):=by
   rw[cq];exact Zj2 _ (.cs c.nm s)
  have a4:(pre++[.cs c.nm (nmR b c.ag)])++((c.gs.map λ g=>.gr (g.map (nmR b)))++(if c.af=[]then[]else[.af (c.af.map (nmC b))]))=pre++b.entsC c:=by
   simp[Bk.entsC]
  refine⟨Zmq.any,(Q36 (ai.le au) _ (some ⟨V,0,none⟩) [c.nm,s] (.inr ⟨_,rfl,(Zj.imI (U':=U5.frz) bc λ _ _ h=>h).rd⟩) D1 (λ x P=>?_) (by show 2<=3;omega) (by have:=Zpo N a7;omega)).mono ?_⟩
  .rcases mem_cons.1 P with rfl|P
   .have:=b0 c B;omega
   .rw[mem_singleton.1 P];have:=bs s bq;omega
  rintro _ U6⟨bd,bg⟩-;rw[e1]at bd;have X:U4.frz.lg U6.frz:=au.lg.frz2.trans bg;have aw:Zj U6 bn #[.string c.nm,.int .i64 q,.slice ga gl gc,.slice aa al ac]:=F.imI X.imm;have be:=(b6.lg Q.lg.frz2).lg X;have bx:=(bw.lg Q.lg.frz2).lg X;have am:U2.frz.lg U6.frz:=a1.trans X;have bv:Zj U6 b1 #[.slice h.ra h.rl h.rc,.slice h.ca h.cl h.cc]:=hB.imI am.imm;have c5:=be.1;have cz:=Z.gl c B;clear e1 bc au bg F ai bt a6 ah b9 b6 bw Q a1 I X;clear U5;refine⟨_,aw.sees3 (o:=2) rfl,Nat,λ z=>[(1,.pb b1),(5,.pb b5),(6,.func (.func 25) #[] #[.pb b5]),(7,.func (.func 28) #[] #[]),(11,.pb bn),(33,.slice h.ca h.cl h.cc),(34,.int .i64 h.cl),(35,.int .i64 y),(51,.slice ga gl gc),(52,.int .i64 gl),(53,.int .i64 z)],λ z U'=>Bld U' b5 (Qeg (pre++[.cs c.nm (nmR b c.ag)]++(c.gs.take z).map λ g=>.gr (g.map (nmR b)))) U.M/\U6.frz.lg U'.frz/\z<=gl,λ z=>gl-z,0,T1,⟨by simpa using bd,⟨λ _ _ h=>h,⟨[],rfl⟩,rfl⟩,O1⟩,?_⟩;rintro z f U7⟨ak,E,hz⟩;have bk:Ja ((z:Int)+1):=I1
  have bu:Zj U7 b1 #[.slice h.ra h.rl h.rc,.slice h.ca h.cl h.cc]:=bv.imI E.imm
  repeat refine⟨rfl,?_⟩
  conv=>whnf
  apply Qg<;>intro L
  .have hlt':z<gl:=by simpa using L
   clear L;obtain⟨bl,g,vs,cj,co,cg,⟨la,ll,lc,rfl,a0,c7⟩,-,ce⟩:=(be.lg E).at hlt';have cu:=mem_of_getElem? cj;obtain⟨c4,b4⟩:=Z.gs c B g cu
   have cv:U7.sees (bl.add (z*1)) (.slice la ll lc):=by
    have h0:=ce 0 _ rfl;obtain⟨ab,ao,ap⟩:=bl;cases cg;simp only[Qo,Nat.add_zero]at h0 ⊢;exact h0.lg Qr
   have br:(pre++[.cs c.nm (nmR b c.ag)]++(c.gs.take z).map λ g=>.gr (g.map (nmR b)))++(((c.gs.drop z).map λ g=>.gr (g.map (nmR b)))++(if c.af=[]then[]else[.af (c.af.map (nmC b))])++(b.cs.drop (y+1)).flatMap b.entsC)=b.ents:=by
    rw[<- N,<- append_assoc,<- append_assoc,append_assoc _ (List.map _ (List.take z c.gs)),<- map_append,take_append_drop,<- append_assoc,<- a4];simp
   have e2:Qeg (pre++[.cs c.nm (nmR b c.ag)]++(c.gs.take z).map λ g=>.gr (g.map (nmR b)))++(Zjy ⟨#[103,114,111,117,110,100]⟩ [Qal (byB 44) (g.map (nmR b))]++byB 10)=Qeg (pre++[.cs c.nm (nmR b c.ag)]++(c.gs.take (z+1)).map λ g=>.gr (g.map (nmR b))):=by
    rw[Qzv cj,map_append,<- append_assoc];exact Zj2 _ (.gr (g.map (nmR b)))
   have Y:∀s∈g.map (nmR b),s.size<=10:=λ s hs=>by
    obtain⟨n,hn,rfl⟩:=mem_map.1 hs;obtain⟨n0,n1⟩:=b4 n hn;unfold Bk.nr at n1;have K:n.toNat<b.rs.length:=O1
    have:nmR b n=b.rs[n.toNat]:=by unfold nmR;simp[getD_eq_getElem?_getD,getElem?_eq_getElem K]
    rw[this];exact bs _ (getElem_mem K)
   have cy:=a0.1;refine⟨bl,z,⟨co,rfl,hlt'⟩,_,cv,Zp5.any,(Zo3 29 Zsc.any (.pb b1) la ll lc g (g.map (nmR b)) a0 S1 (λ U' i x y hl P hy=>?_) O1 (λ s hs=>by have:=Y s hs;omega)).mono ?_⟩
   .rw[getElem?_map,P]at hy;obtain rfl:nmR b x=y:=by simpa using hy
    obtain⟨n0,n1⟩:=b4 x (mem_of_getElem? P);exact Zst (((ay.lg am).lg E).lg hl) (bu.imI hl.imm) x n0 n1
   rintro _ U8⟨rfl,h8⟩-
   conv=>whnf
   intro bb G;refine Zi G λ U9 h9 G=>?_;refine⟨Zmq.any,(Q36 ((ak.le h8).le h9) _ (some ⟨bb,0,none⟩) [Qal (byB 44) (g.map (nmR b))] (.inr ⟨_,rfl,(Zj.imI (U':=U9.frz) G λ _ _ h=>h).rd⟩) D1 (λ x P=>by rw[mem_singleton.1 P];have:=Qpt Y;rw[length_map]at this;omega) (by show 1<=3;omega) (by have:=Zpo br a7;omega)).mono ?_⟩;rintro _ ck⟨H,ae⟩-;rw[e2]at H;refine⟨bk,?_⟩
   conv=>whnf
   exact⟨rfl,z+1,T1,⟨H,E.trans (h8.lg.frz2.trans (h9.lg.frz2.trans ae)),by show z+1<=_;omega⟩,L1⟩
  have az:z=gl:=by
   have:(gl:Int)<=z:=by simpa using L
   omega
  subst az;clear L bk;rw[take_of_length_le O1]at ak;have bf:=am.trans E;have ax:Zj U7 bn #[.string c.nm,.int .i64 q,.slice ga z gc,.slice aa al ac]:=aw.imI E.imm;have a8:=bx.lg E;have a9:=a8.1;have a3:∀(s':Qa T),Bld s' b5 (Qeg (pre++b.entsC c)) U.M->Bld s' b5 (Qeg (b.rs.map Ent.rt++(b.cs.take (y+1)).flatMap b.entsC)) U.M:=λ s' k=>by rw[<- a5];exact k
  refine⟨_,ax.sees3 (o:=3) rfl,rfl,?_⟩
  conv=>whnf
  have c1:c.af.length<=5:=(Z.asc B).1;apply Qg<;>intro L
  .have hpos:0<al:=by
    have:(0:Int)<al:=by simpa using L
    omega
   clear L;have b8:c.af≠[]:=λ e=>by rw[e]at a9;simp at a9;omega
   have br:(pre++[.cs c.nm (nmR b c.ag)]++c.gs.map λ g=>.gr (g.map (nmR b)))++([.af (c.af.map (nmC b))]++(b.cs.drop (y+1)).flatMap b.entsC)=b.ents:=by
    rw[<- N,<- append_assoc,<- append_assoc,<- a4,if_neg b8];simp
   have e2:Qeg (pre++[.cs c.nm (nmR b c.ag)]++c.gs.map λ g=>.gr (g.map (nmR b)))++(Zjy ⟨#[97,102,116,101,114]⟩ [Qal (byB 44) (c.af.map (nmC b))]++byB 10)=Qeg (pre++b.entsC c):=by
    rw[<- a4,if_neg b8,<- append_assoc];exact Zj2 _ (.af (c.af.map (nmC b)))
   have Y:∀s∈c.af.map (nmC b),s.size<=10:=λ s hs=>by
    obtain⟨n,hn,rfl⟩:=mem_map.1 hs;obtain⟨n0,n1⟩:=Z.af c B n hn;unfold Bk.nc at n1;have K:n.toNat<b.cs.length:=O1
    have:nmC b n=b.cs[n.toNat].nm:=by unfold nmC;simp[getD_eq_getElem?_getD,getElem?_eq_getElem K]
    rw[this];exact b0 _ (getElem_mem K)
   refine⟨_,ax.sees3 (o:=3) rfl,Zp5.any,(Zo3 30 Zsd.any (.pb b1) aa al ac c.af (c.af.map (nmC b)) a8 S1 (λ U' i x y hl P hy=>?_) O1 (λ s hs=>by have:=Y s hs;omega)).mono ?_⟩
   .rw[getElem?_map,P]at hy;obtain rfl:nmC b x=y:=by simpa using hy
    obtain⟨n0,n1⟩:=Z.af c B x (mem_of_getElem? P);exact Zss (((ay.lg am).lg E).lg hl) (bu.imI hl.imm) x n0 n1
   rintro _ U8⟨rfl,h8⟩-
   conv=>whnf
   intro bb G;refine Zi G λ U9 h9 G=>?_;refine⟨Zmq.any,(Q36 ((ak.le h8).le h9) _ (some ⟨bb,0,none⟩) [Qal (byB 44) (c.af.map (nmC b))] (.inr ⟨_,rfl,(Zj.imI (U':=U9.frz) G λ _ _ h=>h).rd⟩) D1 (λ x P=>by rw[mem_singleton.1 P];have:=Qpt Y;rw[length_map]at this;omega) (by show 1<=3;omega) (by have:=Zpo br a7;omega)).mono ?_⟩;rintro _ ck⟨H,ae⟩-;rw[e2]at H;refine⟨an,?_⟩
   conv=>whnf
   exact⟨rfl,y+1,T1,⟨a3 _ H,bf.trans (h8.lg.frz2.trans (h9.lg.frz2.trans ae)),by show y+1<=_;omega⟩,L1⟩
  .have he:c.af=[]:=by
    have:(al:Int)<=0:=by simpa using L
    exact length_eq_zero_iff.1 O1
   clear L;rw[if_pos he,append_nil]at a4;refine⟨an,?_⟩
   conv=>whnf
   exact⟨rfl,y+1,T1,⟨a3 _ (by rw[<- a4];exact ak),bf,by show y+1<=_;omega⟩,L1⟩
 have az:y=h.cl:=by
  have:(h.cl:Int)<=y:=by simpa using L
  omega
 subst az;clear L an;rw[take_of_length_le O1]at w;have ai:Bld U3 b5 (Qeg b.ents) U.M:=w;refine⟨Zse.any,(Zrp ai).mono ?_⟩;rintro _ U4⟨rfl,aj,a1⟩-;refine⟨rfl,?_⟩
 conv=>whnf
 apply Qg<;>intro L
 .exfalso;have:(60000:Int)<(Qeg b.ents).size:=by simpa using L
  omega
 clear L;refine⟨Zp6.any,(Zky aj O1).mono ?_⟩;rintro _ U5⟨rfl,cr,a2⟩-
 conv=>whnf
 exact⟨rfl,cr,bp.trans (I.trans (a1.trans a2))⟩
end
def Zs4(s:ByteArray):Nat->List ByteArray->Int
 |_,[]=>-1
 |i,x::l=>if x=s then i else Zs4 s (i+1) l
def Zs5(s:ByteArray):∀(l:List ByteArray)(i:Nat),decide (Zs4 s i l ≥ 0)=JB l s
 |[],_=>rfl
 |x::l,i=>by
  unfold Zs4 JB;rw[any_cons];by_cases e:x=s
  .rw[if_pos e];simp[e]
  .rw[if_neg e,decide_eq_false e,Bool.false_or];exact Zs5 s l (i+1)
def Zve(s x:ByteArray)(i:Nat)(l:List ByteArray):Zs4 s i (x::l)=if x=s then(i:Int)else Zs4 s (i+1) l:=rfl
def Zrl{b:Int}:∀{l:List Int}{p:Option Int}{n:Int},QU b p l=0->QU b p (l++[n])=if QR n 0 (b-1)then(match(l.getLast?).or p with|some m=>if n<=m then 7 else 0|none=>0)else 6
 |[],p,n,_=>by
  rw[nil_append,Pf];cases p <;> rfl
 |x::l,p,n,h=>by
  rw[Pf]at h;rw[cons_append,Pf];split at h
  .rename_i hb;rw[if_pos hb]
   have key:QU b (some x) l=0->QU b (some x) (l++[n])=if QR n 0 (b-1)then(match((x::l).getLast?).or p with|some m=>if n<=m then 7 else 0|none=>0)else 6:=λ h=>by
    rw[Zrl h];cases l with
    |nil=>simp
    |cons y l=>
     rw[getLast?_cons_cons];obtain⟨z,f⟩:∃z,(y::l).getLast?=some z:=⟨_,getLast?_eq_some_getLast (cons_ne_nil y l)⟩;rw[f];rfl
   cases p with
   |none=>exact key h
   |some m=>
    simp only at h ⊢;split at h
    .cases h
    .rename_i hm;rw[if_neg hm];exact key h
  .cases h
def Zqn{b:Int}:∀{l l':List Int}{p:Option Int},QU b p l≠0->QU b p (l++l')=QU b p l
 |[],_,_,h=>absurd rfl h
 |x::l,l',p,h=>by
  rw[Pf]at h;rw[cons_append,Pf,Pf];split at h
  .rename_i hb;rw[if_pos hb,if_pos hb];cases p with
   |none=>exact Zqn h
   |some m=>
    simp only at h ⊢;split at h
    .rename_i hm;rw[if_pos hm,if_pos hm]
    .rename_i hm;rw[if_neg hm,if_neg hm];exact Zqn h
  .rename_i hb;rw[if_neg hb,if_neg hb]
section
attribute [local irreducible] Qb Zp Wv
def Zrs(a:Option Addr)(len cap:Nat)(l:List ByteArray)(B:Q8 U a len 1 l λ s vs=>vs=[.string s])(E:len<2^60)(s:ByteArray) :
  Qb S 45 #[.slice a len cap,.string s] (λ v U'=>v=.int .i64 (Zs4 s 0 l)/\U'=U) U:=by
 refine Qb.of (args:=[_,_]) Zsh Qf S1 ?_;have G:=B.1;refine⟨Nat,λ i=>[(0,.slice a len cap),(1,.string s),(5,.int .i64 i)],λ i U'=>U'=U/\i<=len/\Zs4 s 0 l=Zs4 s i (l.drop i),λ i=>len-i,0,T1,⟨rfl,O1,rfl⟩,?_⟩;rintro i f _⟨rfl,K,b⟩;have w:Ja ((i:Int)+1):=I1
 repeat refine⟨rfl,?_⟩
 conv=>whnf
 apply Qg<;>intro h
 .have hlt:i<len:=by simpa using h
  obtain⟨F,x,vs,I,rfl,H,rfl,-,z⟩:=B.at hlt;rw[Ha I,Zve]at b;refine⟨F,i,⟨rfl,rfl,hlt⟩,_,z 0 _ rfl,?_⟩
  repeat refine⟨rfl,?_⟩
  conv=>whnf
  apply Qg<;>intro h
  .have e:x=s:=by rw[Qvf]at h;simpa using h
   rw[if_pos e]at b;rw[b]
   repeat refine⟨rfl,?_⟩
   conv=>whnf
  .have e:x≠s:=by rw[Qvf]at h;simpa using h
   rw[if_neg e]at b;refine⟨w,?_⟩
   conv=>whnf
   exact⟨rfl,i+1,T1,⟨rfl,O1,b⟩,L1⟩
 .have hge:i=len:=by simp at h;omega
  rw[drop_eq_nil_of_le O1]at b;rw[b]
  repeat refine⟨rfl,?_⟩
  conv=>whnf
def Zni(a:Option Addr)(len cap:Nat)(l:List Int)(P:Z3 U a len l)(V:len<2^60)(n:Nat)(hn:n<2^60) :
  Qb S 79 #[.slice a len cap,.int .i64 n] (λ v U'=>v=.int .i64 (QU n none l)/\U'=U) U:=by
 refine Qb.pure' (Qb.of (args:=[_,_]) Zqa Qf S1 ?_);have ab:=P.1;have I:Ja ((n:Int)-1):=I1
 refine⟨Nat,λ i=>[(0,.slice a len cap),(1,.int .i64 n),(5,.int .i64 i)],λ i U'=>U.lg U'/\i<=len/\QU n none (l.take i)=0,λ i=>len-i,0,T1,⟨(Qa.le.refl _).lg,O1,rfl⟩,?_⟩;rintro i f Z⟨w,hi,z⟩;have H:Ja ((i:Int)+1):=I1
 repeat refine⟨rfl,?_⟩
 conv=>whnf
 apply Qg<;>intro F
 .have hlt:i<len:=by simpa using F
  obtain⟨L,x,hx,rfl,ac,W⟩:=(P.lg w).at hlt;have b:QU n none (l.take (i+1))=if QR x 0 ((n:Int)-1)then(match((l.take i).getLast?).or none with|some m=>if x<=m then 7 else 0|none=>0)else 6:=by rw[Wf hx];exact Zrl z
  have E:QU n none (l.take (i+1))≠0->QU n none l=QU n none (l.take (i+1)):=λ h=>by
   have:=Zqn (l':=l.drop (i+1)) h
   rwa [take_append_drop]at this
  refine⟨L,i,⟨rfl,rfl,hlt⟩,_,W,I,gW.any,(Zmk Z x 0 ((n:Int)-1)).go λ _=>?_⟩;cases T:QR x 0 ((n:Int)-1)with
  |false=>
   rw[T,if_neg S1]at b;rw[E (by rw[b];decide),b]
   repeat refine⟨rfl,?_⟩
   conv=>whnf
   exact w
  |true=>
   rw[if_pos T]at b
   repeat refine⟨rfl,?_⟩
   conv=>whnf
   apply Jt<;>intro F
   .have h0:0<i:=by simpa using F
    obtain⟨j,rfl⟩:∃j,i=j+1:=⟨i-1,O1⟩;obtain⟨y,Y⟩:∃y,l[j]?=some y:=⟨_,getElem?_eq_getElem O1⟩;have G:(l.take (j+1)).getLast?=some y:=by rw[Wf Y];simp
    rw[G,Option.some_or]at b;simp only at b;obtain⟨aa,e',X,Q⟩:=(P.lg w).2 j y Y;cases e';have K:Ja (((j+1:Nat):Int)-1):=I1
    have N:((j+1:Nat):Int)-1=(j:Int):=O1
    refine⟨L,j+1,⟨rfl,rfl,hlt⟩,_,W,K,?_⟩;rw[N];refine⟨L,j,⟨rfl,rfl,O1⟩,_,Q,?_⟩
    conv=>whnf
    intro U2 B _
    repeat refine⟨rfl,?_⟩
    conv=>whnf
    apply Qg<;>intro F
    .have hle:x<=y:=by simpa using F
     rw[if_pos hle]at b;rw[E (by rw[b];decide),b]
     repeat refine⟨rfl,?_⟩
     conv=>whnf
     exact w.trans B.lg
    .have hle:¬x<=y:=by simp at F;omega
     rw[if_neg hle]at b;refine⟨H,?_⟩
     conv=>whnf
     exact⟨rfl,j+1+1,T1,⟨w.trans B.lg,O1,b⟩,L1⟩
   .have h0:i=0:=by simp at F;omega
    subst h0;have b:QU n none (l.take (0+1))=0:=b
    conv=>whnf
    intro U2 B _;refine⟨H,?_⟩
    conv=>whnf
    exact⟨rfl,0+1,T1,⟨w.trans B.lg,O1,b⟩,L1⟩
 .have hge:i=len:=by simp at F;omega
  rw[take_of_length_le O1]at z;rw[z]
  repeat refine⟨rfl,?_⟩
  conv=>whnf
  exact w
def Zr1(h:BH)(b:Bk)(hb:Zq U.frz h b)(aq:b.Low)(two:Nat)(h2:two<60):∀(s one:Nat),s<=60->one<b.cs.length ->
  Qb S 80 #[h.v,.int .i64 one,.int .i64 two,.int .i64 s] (λ v U'=>v=.bool (WA b.A two s one)/\U'=U) U:=by
 have a0:=hb.cs.1;intro s
 induction s generalizing U with
 |zero=>
  intro one hs ai;refine Qb.pure' (Qb.of (args:=[_,_,_,_]) Zoz Qf S1 ?_)
  repeat refine⟨rfl,?_⟩
  conv=>whnf
  intro B W E L;have L:Zj W B #[.slice h.ra h.rl h.rc,.slice h.ca h.cl h.cc]:=L;obtain⟨Y,c,ga,gl,gc,aa,al,ac,hx,G,ak,V,-,-,ha,an,H⟩:=(hb.lg E.lg.frz2).case (show one<h.cl by omega);refine⟨Unit,λ _=>[(1,.int .i64 one),(2,.int .i64 two),(3,.int .i64 0),(4,.pb B),(9,.int .i64 0)],λ _ U'=>U'=W,λ _=>0,(),T1,rfl,?_⟩;rintro _ f _ rfl;refine⟨_,L.sees3 (o:=1) rfl,Y,one,⟨G,rfl,O1⟩,_,(V.lg Qr).cell (i:=3) rfl,?_⟩
  repeat refine⟨rfl,?_⟩
  conv=>whnf
  apply Jt<;>intro X
  .repeat refine⟨rfl,?_⟩
   conv=>whnf
   exact E.lg
  .repeat refine⟨rfl,?_⟩
   conv=>whnf
   exact E.lg
 |succ s ih=>
  intro one hs ai;refine Qb.pure' (Qb.of (args:=[_,_,_,_]) Zoz Qf S1 ?_)
  repeat refine⟨rfl,?_⟩
  conv=>whnf
  intro B W E L;have L:Zj W B #[.slice h.ra h.rl h.rc,.slice h.ca h.cl h.cc]:=L;obtain⟨Y,c,ga,gl,gc,aa,al,ac,hx,G,ak,V,-,-,ha,an,H⟩:=(hb.lg E.lg.frz2).case (show one<h.cl by omega);have ao:=Bk.aft1_at hx;have ay:=ha.1;have Z:=aq.af c H;have hm:WA b.A two (s+1) one=(c.af.map Int.toNat).any λ k=>k==two|| WA b.A two s k:=by rw[<- ao];rfl
  rw[hm];have ae:Ja (((s+1:Nat):Int)-1):=I1
  have au:((s+1:Nat):Int)-1=(s:Int):=O1
  have aj:decide (((s+1:Nat):Int) > 0)=true:=decide_eq_true O1;refine⟨Nat,λ i=>[(1,.int .i64 one),(2,.int .i64 two),(3,.int .i64 (s+1:Nat)),(4,.pb B),(9,.int .i64 i)],λ i U'=>W.lg U'/\i<=al/\((c.af.take i).map Int.toNat).any (λ k=>k==two|| WA b.A two s k)=false,λ i=>al-i,0,T1,⟨(Qa.le.refl _).lg,O1,S1⟩,?_⟩;rintro i f U2⟨z,hi,Q⟩;have ap:Ja ((i:Int)+1):=I1
  have I:Jj U2 (Y.add (one*4)) [.string c.nm,.int .i64 c.ag,.slice ga gl gc,.slice aa al ac]:=(V.lg Qr).lg z;have N:=L.lg z;have F:∀{w:Qa T},W.lg w->U.lg w:=λ h=>E.lg.trans h;refine⟨_,N.sees3 (o:=1) rfl,Y,one,⟨G,rfl,O1⟩,_,I.cell (i:=3) rfl,?_⟩
  repeat refine⟨rfl,?_⟩
  conv=>whnf
  apply Jt<;>intro X
  .have hlt:i<al:=by simpa using X
   repeat refine⟨rfl,?_⟩
   conv=>whnf
   rw[aj];obtain⟨am,x,hy,rfl,az,av⟩:=((ha.lg Qr).lg z).at hlt;obtain⟨aw,ax⟩:=Z x (mem_of_getElem? hy);obtain⟨k,rfl⟩:=Int.eq_ofNat_of_zero_le aw;have hk:k<b.cs.length:=by unfold Bk.nc at ax;omega
   have ab:((c.af.take (i+1)).map Int.toNat).any (λ k=>k==two|| WA b.A two s k)=(k==two|| WA b.A two s k):=by
    rw[Wf hy,map_append,any_append,Q];simp
   have K:(k==two|| WA b.A two s k)=true->(c.af.map Int.toNat).any (λ k=>k==two|| WA b.A two s k)=true:=λ h=>by
    rw[any_eq_true];exact⟨k,mem_map.2 ⟨(k:Int),mem_of_getElem? hy,S1⟩,h⟩
   refine⟨_,N.sees3 (o:=1) rfl,Y,one,⟨G,rfl,O1⟩,_,I.cell (i:=3) rfl,am,i,⟨rfl,rfl,hlt⟩,_,av,?_⟩
   repeat refine⟨rfl,?_⟩
   conv=>whnf
   apply Jt<;>intro X
   .have hne:k≠two:=by
     have P:((k:Int)==(two:Int))=false:=X;have:=ne_of_beq_false P;omega
    refine⟨_,⟨rfl,N.rd⟩,?_⟩;refine⟨ae,?_⟩;rw[au];refine⟨Zoz.any,(ih (U:=U2) ((hb.lg E.lg.frz2).lg z.frz2) k O1 hk).go λ _=>?_⟩;cases ah:WA b.A two s k with
    |true=>
     rw[K (by rw[ah];simp)]
     repeat refine⟨rfl,?_⟩
     conv=>whnf
     exact F z
    |false=>
     refine⟨ap,?_⟩
     conv=>whnf
     exact⟨rfl,i+1,T1,⟨z,O1,by rw[ab,ah];simpa using hne⟩,L1⟩
   .have he:k=two:=by
     have P:((k:Int)==(two:Int))=true:=X;have:=eq_of_beq P;omega
    rw[K (by simp[he])]
    repeat refine⟨rfl,?_⟩
    conv=>whnf
    exact F z
  .have hge:i=al:=by simp at X;omega
   rw[take_of_length_le O1]at Q;rw[Q]
   repeat refine⟨rfl,?_⟩
   conv=>whnf
   exact F z
end
variable{m:UInt8}
def Zuf(c:UInt8):IntKind.wrap .i64 (c.toNat:Int)=c.toNat:=by
 have:=c.toNat_lt;simp only[IntKind.wrap,IntKind.signed,IntKind.bits];simp;omega
def Zxx(h:s.data.toList[b8]?=some m):s[b8]?=some m:=by
 rw[<- h];have:s[b8]?=s.data[b8]?:=rfl;rw[this,Array.getElem?_toList]
def Zq1(c:UInt8):Bool:=QR (c.toNat:Int) 97 122
def Zs1(c:UInt8):Bool:=QR (c.toNat:Int) 48 57
def Zsw(c:UInt8):Gs c=(!Zq1 c&&!Zs1 c):=by
 unfold Gs Zq1 Zs1 QR;rw[Bool.eq_iff_iff];simp
def Zpk:List UInt8->Nat->Bool
 |[],_=>true
 |c::r,i=>(Zq1 c|| (Zs1 c&&!decide (i=0)))&&Zpk r (i+1)
def Zs8:∀(l:List UInt8)(i:Nat),0<i->Zpk l i=!(l.any Gs)
 |[],_,_=>rfl
 |c::r,i,h=>by
  rw[Zpk,Zs8 r (i+1) O1,any_cons,Zsw,Bool.not_or,Bool.not_and,Bool.not_not,Bool.not_not];have:decide (i=0)=false:=decide_eq_false O1;rw[this];cases Zq1 c <;> cases Zs1 c <;> rfl
def Zvi(s:ByteArray):Zh s=(QR s.size 1 10&&Zpk s.data.toList 0):=by
 unfold Zh;have b:s.size=s.data.toList.length:=(Array.length_toList (xs:=s.data)).symm;cases h:s.data.toList with
 |nil=>
  have:QR (s.size:Int) 1 10=false:=by unfold QR;rw[b,h];rfl
  rw[this];rfl
 |cons c r=>
  congr 1;rw[Zpk,Zs8 r 1 O1,any_cons,Zsw,Bool.not_or,Bool.not_and,Bool.not_not,Bool.not_not]
  have f:(!(decide ((c.toNat:Int)<97))&&!(decide ((c.toNat:Int) > 122)))=Zq1 c:=by
   unfold Zq1 QR;rw[Bool.eq_iff_iff];simp only[Bool.and_eq_true,Bool.not_eq_true',decide_eq_false_iff_not,decide_eq_true_eq];omega
  simp only[f];cases Zq1 c <;> simp
def Zq0(nr nc:Int)(seen:List ByteArray)(c:Cs):Int:=
 if Zh c.nm then(if JB seen c.nm then 5 else if QR c.ag 0 (nr-1)then(if XS nr c.gs=0 then QU nc none c.af else XS nr c.gs)else 6)else 4
def Zvc(nr nc:Int)(seen:List ByteArray)(c:Cs)(l:List Cs):XW Zh nr nc seen (c::l)=if Zq0 nr nc seen c=0 then XW Zh nr nc (seen++[c.nm]) l else Zq0 nr nc seen c:=by
 have e:XW Zh nr nc seen (c::l)=if Zh c.nm then(if JB seen c.nm then 5 else
   if QR c.ag 0 (nr-1)then(if XS nr c.gs=0 then(if QU nc none c.af=0 then XW Zh nr nc (seen++[c.nm]) l else QU nc none c.af)else XS nr c.gs)else 6)else 4:=rfl
 rw[e];unfold Zq0;split
 .split
  .rfl
  .split
   .split
    .rfl
    .rfl
   .rfl
 .rfl
def Zvh(seen:List ByteArray)(s:ByteArray)(l:List ByteArray):Gx Zh seen (s::l)=if Zh s then(if JB seen s then 5 else Gx Zh (seen++[s]) l)else 4:=rfl
def Zvg(l:List ByteArray)(x s:ByteArray):JB (l++[x]) s=(JB l s|| decide (x=s)):=by simp[JB]
def Zvf(nr:Int)(g:List Int)(l:List (List Int)):XV nr (g::l)=if g.length > 3 then 2 else if QU nr none g=0 then XV nr l else QU nr none g:=rfl
def Q8.take{a:Option Addr}{len n i:Nat}{α:Type}{l:List α}{R:α->List Value->Prop}(h:Q8 U a len n l R)(w:i<=len):Q8 U a i n (l.take i) R:=by
 refine⟨by rw[length_take,h.1];omega,λ k x b=>?_⟩;have f:=(List.getElem?_eq_some_iff.1 b).1;rw[length_take]at f;rw[getElem?_take_of_lt O1]at b;exact h.2 k x b
def Wl.at{a:Option Addr}{len:Nat}{B:List (List Int)}(h:Wl U a len B){i:Nat}(H:i<len) :
  ∃b g ga gl gc,B[i]?=some g/\a=some b/\b.spot=none/\U.sees ((b.add (i*1)).add 0) (.slice ga gl gc)/\Z3 U ga gl g/\gl<2^60/\g∈B:=by
 obtain⟨b,g,vs,E,f,z,⟨ga,gl,gc,rfl,F,G⟩,-,w⟩:=Q8.at h H;exact⟨b,g,ga,gl,gc,E,f,z,w 0 _ rfl,F,G,mem_of_getElem? E⟩
section
attribute [local irreducible] Qb Zp Wv
def Zoe(s:ByteArray)(N:s.size<2^60):Qb S 48 #[.string s] (λ v U'=>v=.bool (Zh s)/\U'=U) U:=by
 refine Qb.pure' (Qb.of (args:=[_]) Znn Qf S1 ?_);rw[Zvi];have H:s.size=s.data.toList.length:=(Array.length_toList (xs:=s.data)).symm
 repeat refine⟨rfl,?_⟩
 conv=>whnf
 apply Jt<;>intro w
 .have h0:s.size≠0:=by simpa using w
  repeat refine⟨rfl,?_⟩
  conv=>whnf
  apply Qg<;>intro w
  .have:QR s.size 1 10=false:=by unfold QR;simp at w ⊢;omega
   rw[this]
   repeat refine⟨rfl,?_⟩
   conv=>whnf
   exact(Qa.le.refl _).lg
  .have:QR s.size 1 10=true:=by unfold QR;simp at w ⊢;omega
   rw[this,Bool.true_and];refine⟨Nat,λ i=>[(0,.string s),(3,.int .i64 i)],λ i U'=>U.le U'/\i<=s.size/\Zpk s.data.toList 0=Zpk (s.data.toList.drop i) i,λ i=>s.size-i,0,T1,⟨.refl _,O1,rfl⟩,?_⟩;rintro i f I⟨z,L,b⟩
   repeat refine⟨rfl,?_⟩
   conv=>whnf
   apply Qg<;>intro w
   .have hlt:i<s.size:=by simpa using w
    obtain⟨c,F⟩:∃c,s.data.toList[i]?=some c:=⟨_,getElem?_eq_getElem O1⟩;rw[Ha F,Zpk]at b;refine⟨i,c,⟨rfl,Zxx F⟩,.bool (Zq1 c),λ U' B _=>?_,?_⟩
    .refine⟨gW.any,(Zmk _ _ _ _).mono ?_⟩;rintro _ U''⟨rfl,G⟩-;exact⟨by rw[Zuf];rfl,_,.refl _,G▸.refl _⟩
    refine⟨i,c,⟨rfl,Zxx F⟩,?_⟩
    conv=>whnf
    intro K B _;refine⟨gW.any,(Zmk _ _ _ _).go λ _=>?_⟩;rw[Zuf];have E:Ja (i+1):=I1
    have next:Zpk s.data.toList 0=Zpk (s.data.toList.drop (i+1)) (i+1)->i+1<=s.size/\Zpk s.data.toList 0=Zpk (s.data.toList.drop (i+1)) (i+1):=λ h=>⟨O1,h⟩
    repeat refine⟨rfl,?_⟩
    conv=>whnf
    apply Jt<;>intro w
    .have h1:Zq1 c=false:=by simpa using w
     repeat refine⟨rfl,?_⟩
     conv=>whnf
     apply Jt<;>intro w
     .have h2:Zs1 c=true:=by simpa[Zs1]using w
      repeat refine⟨rfl,?_⟩
      conv=>whnf
      apply Qg<;>intro w
      .have h3:i=0:=by simpa using w
       repeat refine⟨rfl,?_⟩
       conv=>whnf
       exact⟨by rw[b,h1,h3];simp,(z.trans B).lg⟩
      .have h3:i≠0:=by simpa using w
       refine⟨E,rfl,i+1,T1,⟨z.trans B,next (by rw[b,h1,h2];simp[h3])⟩,L1⟩
     .have h2:Zs1 c=false:=by simpa[Zs1]using w
      repeat refine⟨rfl,?_⟩
      conv=>whnf
      exact⟨by rw[b,h1,h2];simp,(z.trans B).lg⟩
    .have h1:Zq1 c=true:=by simpa using w
     repeat refine⟨rfl,?_⟩
     refine⟨E,rfl,i+1,T1,⟨z.trans B,next (by rw[b,h1];simp)⟩,L1⟩
   .have hge:s.size<=i:=by simpa using w
    rw[drop_eq_nil_of_le O1]at b
    repeat refine⟨rfl,?_⟩
    conv=>whnf
    exact⟨by rw[b];rfl,z.lg⟩
 .have h0:s.size=0:=by simpa using w
  have:QR s.size 1 10=false:=by unfold QR;rw[h0];rfl
  rw[this]
  repeat refine⟨rfl,?_⟩
  conv=>whnf
  exact(Qa.le.refl _).lg
def Zox(h:BH)(b:Bk)(hb:Zq U.frz h b)(i:Nat)(c:Cs)(hx:b.cs[i]?=some c) :
  Qb S 49 #[h.v,.int .i64 i] (λ v U'=>v=.int .i64 (Zq0 b.nr b.nc ((b.cs.take i).map Cs.nm) c)/\U'=U) U:=by
 refine Qb.pure' (Qb.of (args:=[_,_]) Zsj Qf S1 ?_);have au:=hb.cs.1;have av:=hb.cl;have bj:=hb.rs.1;have a3:=hb.rl;have hi:i<h.cl:=by rw[<- au];exact(List.getElem?_eq_some_iff.1 hx).1
 have bh:b.nr=(h.rl:Int):=by unfold Bk.nr;rw[bj]
 have bg:b.nc=(h.cl:Int):=by unfold Bk.nc;rw[au]
 have az:Ja ((h.rl:Int)-1):=I1
 rw[bh,bg]
 repeat refine⟨rfl,?_⟩
 conv=>whnf
 intro B U1 an hB;have hB:Zj U1 B #[.slice h.ra h.rl h.rc,.slice h.ca h.cl h.cc]:=hB;have W:=hb.lg an.lg.frz2;obtain⟨ad,c',ga,gl,gc,aa,al,ac,bl,ba,bt,bi,hg,br,ha,a9,a0⟩:=W.case hi;obtain rfl:c=c':=Option.some.inj (hx.symm.trans bl);have bm:=hb.cn c a0;refine⟨_,hB.sees3 (o:=1) rfl,ad,i,⟨ba,rfl,hi⟩,_,⟨rfl,bi.lg Qr⟩,?_⟩
 conv=>whnf
 intro b5 bb;refine⟨_,.refl _,rfl,Zv (vs:=[.string c.nm,.int .i64 c.ag,.slice ga gl gc,.slice aa al ac]) bb rfl (by simp[Value.single]) λ U2 P ao=>?_⟩;have am:=hB.lg P.lg;have ap:=W.lg P.lg.frz2;have hg:=(hg.lg P.lg.frz2);have ha:=(ha.lg P.lg.frz2);have T:U.lg U2:=an.lg.trans P.lg;refine⟨_,ao.sees3 (o:=0) rfl,Znn.any,(Zoe c.nm bm).go λ _=>?_⟩;cases hn:Zh c.nm with
 |false=>
  have hs:Zq0 h.rl h.cl ((b.cs.take i).map Cs.nm) c=4:=by unfold Zq0;rw[hn];rfl
  rw[hs]
  repeat refine⟨rfl,?_⟩
  conv=>whnf
  exact T
 |true=>
 have hs:Zq0 h.rl h.cl ((b.cs.take i).map Cs.nm) c=(if JB ((b.cs.take i).map Cs.nm) c.nm then 5 else if QR c.ag 0 ((h.rl:Int)-1)then(if XS h.rl c.gs=0 then QU h.cl none c.af else XS h.rl c.gs)else 6):=by unfold Zq0;rw[hn];rfl
 rw[hs];refine⟨Nat,λ k=>[(1,.int .i64 i),(2,.pb B),(5,.pb b5),(6,.int .i64 k)],λ k U'=>U2.le U'/\k<=i/\JB ((b.cs.take k).map Cs.nm) c.nm=false,λ k=>i-k,0,T1,⟨.refl _,O1,by simp[JB]⟩,?_⟩;rintro k f U3⟨F,hk,a1⟩;have N:=am.lg F.lg;have I:=ao.lg F.lg;have aq:=ap.lg F.lg.frz2;have be:Ja ((k:Int)+1):=I1
 repeat refine⟨rfl,?_⟩
 conv=>whnf
 apply Qg<;>intro E
 .have hlt:k<i:=by simpa using E
  obtain⟨V,c2,ah,aj,ai,bn,bp,bo,a6,L,a5,a2,-,-,-,-,bf⟩:=aq.case (show k<h.cl by omega)
  have bk:JB ((b.cs.take (k+1)).map Cs.nm) c.nm=decide (c2.nm=c.nm):=by
   rw[Wf a6,map_append,map_cons,map_nil,Zvg,a1,Bool.false_or]
  refine⟨_,N.sees3 (o:=1) rfl,V,k,⟨L,rfl,O1⟩,_,(a2.lg Qr).cell (i:=0) rfl,_,I.sees3 (o:=0) rfl,?_⟩
  conv=>whnf
  intro U4 z _
  repeat refine⟨rfl,?_⟩
  conv=>whnf
  apply Qg<;>intro E
  .have e:c2.nm=c.nm:=by rw[Qvf]at E;simpa using E
   have a7:JB ((b.cs.take i).map Cs.nm) c.nm=true:=by
    rw[Znu,mem_map];refine⟨c2,?_,e⟩;rw[mem_take_iff_getElem];obtain⟨hl,e2⟩:=List.getElem?_eq_some_iff.1 a6;exact⟨k,O1,e2⟩
   rw[a7]
   repeat refine⟨rfl,?_⟩
   conv=>whnf
   exact T.trans (F.lg.trans z.lg)
  .have e:¬c2.nm=c.nm:=by rw[Qvf]at E;simpa using E
   refine⟨be,?_⟩
   conv=>whnf
   exact⟨rfl,k+1,T1,⟨F.trans z,O1,by rw[bk];simpa using e⟩,L1⟩
 have aw:k=i:=by simp at E;omega
 subst aw;rw[a1];have G:=T.trans F.lg;refine⟨_,I.sees3 (o:=1) rfl,_,N.sees3 (o:=0) rfl,az,gW.any,(Zmk U3 c.ag 0 ((h.rl:Int)-1)).go λ _=>?_⟩;cases bq:QR c.ag 0 ((h.rl:Int)-1)with
 |false=>
  repeat refine⟨rfl,?_⟩
  conv=>whnf
  exact G
 |true=>
 refine⟨_,I.sees3 (o:=2) rfl,?_⟩
 repeat refine⟨rfl,?_⟩
 conv=>whnf
 have Y:c.gs.length=gl:=hg.1;apply Qg<;>intro E
 .have ae:XS h.rl c.gs=2:=by unfold XS;rw[if_pos (by rw[Y];simp at E;omega)]
  rw[ae]
  repeat refine⟨rfl,?_⟩
  conv=>whnf
  exact G
 have ae:XS h.rl c.gs=XV h.rl c.gs:=by unfold XS;rw[if_neg (by rw[Y];simp at E;omega)]
 rw[ae];refine⟨Nat,λ j=>[(1,.int .i64 k),(2,.pb B),(5,.pb b5),(7,.int .i64 j)],λ j U'=>U3.le U'/\j<=gl/\XV h.rl c.gs=XV h.rl (c.gs.drop j),λ j=>gl-j,0,T1,⟨.refl _,O1,rfl⟩,?_⟩;rintro j f U4⟨z,hj,w⟩;have ak:=N.lg z.lg;have K:=I.lg z.lg;have bd:=(hg.lg F.lg.frz2).lg z.lg.frz2;have a8:=(ha.lg F.lg.frz2).lg z.lg.frz2;have H:=G.trans z.lg;have ay:Ja ((j:Int)+1):=I1
 refine⟨_,K.sees3 (o:=2) rfl,?_⟩
 repeat refine⟨rfl,?_⟩
 conv=>whnf
 apply Qg<;>intro E
 .have hlt:j<gl:=by simpa using E
  obtain⟨V,g,ah,aj,ai,bc,L,a5,a4,Z,ax,bs⟩:=(Wl.lg bd Qr).at hlt;have X:=Z.1;rw[Ha bc,Zvf]at w;refine⟨_,K.sees3 (o:=2) rfl,V,j,⟨L,rfl,hlt⟩,_,a4,?_⟩
  repeat refine⟨rfl,?_⟩
  conv=>whnf
  apply Qg<;>intro E
  .have Q:g.length > 3:=by rw[X];simp at E;omega
   rw[if_pos Q]at w;rw[w]
   repeat refine⟨rfl,?_⟩
   conv=>whnf
   exact H
  have Q:¬g.length > 3:=by rw[X];simp at E;omega
  rw[if_neg Q]at w;refine⟨_,K.sees3 (o:=2) rfl,V,j,⟨L,rfl,hlt⟩,_,a4,_,ak.sees3 (o:=0) rfl,?_⟩
  conv=>whnf
  intro U5 ab _;refine⟨Zqa.any,(Zni ah aj ai g (Z.lg ab.lg) ax h.rl a3).go λ _=>?_⟩;by_cases hz:QU (h.rl:Nat) none g=0
  .rw[if_pos hz]at w;rw[hz]
   repeat refine⟨rfl,?_⟩
   refine⟨ay,?_⟩
   conv=>whnf
   exact⟨rfl,j+1,T1,⟨z.trans ab,O1,w⟩,L1⟩
  .rw[if_neg hz]at w;rw[w,if_neg hz]
   repeat refine⟨rfl,?_⟩
   conv=>whnf
   apply Qg<;>intro E
   .repeat refine⟨rfl,?_⟩
    conv=>whnf
    exact H.trans ab.lg
   .exact absurd (by simpa using E) hz
 have aw:j=gl:=by simp at E;omega
 rw[drop_eq_nil_of_le O1]at w;rw[w];refine⟨_,K.sees3 (o:=3) rfl,_,ak.sees3 (o:=1) rfl,Zqa.any,(Zni aa al ac c.af (a8.lg Qr) a9 h.cl av).go λ _=>?_⟩
 repeat refine⟨rfl,?_⟩
 conv=>whnf
 exact H
def Zqc(h:BH)(b:Bk)(P:Zq U.frz h b)(F:b.Low):Qb S 50 #[h.v] (λ v U'=>v=.bool (Gk b.A)/\U'=U) U:=by
 refine Qb.pure' (Qb.of (args:=[_]) Zsk Qf S1 ?_);have K:=P.cs.1;have V:=F.nc;have z:b.A.length=h.cl:=by rw[b.A_len,K]
 repeat refine⟨rfl,?_⟩
 conv=>whnf
 intro B N w E;have E:Zj N B #[.slice h.ra h.rl h.rc,.slice h.ca h.cl h.cc]:=E;refine⟨Nat,λ i=>[(1,.pb B),(3,.int .i64 i)],λ i U'=>U'=N/\i<=h.cl/\((range i).any λ i=>WA b.A i h.cl i)=false,λ i=>h.cl-i,0,T1,⟨rfl,O1,rfl⟩,?_⟩;rintro i f _⟨rfl,W,G⟩;have L:Ja ((i:Int)+1):=I1
 refine⟨_,E.sees3 (o:=1) rfl,?_⟩
 repeat refine⟨rfl,?_⟩
 conv=>whnf
 apply Qg<;>intro Q
 .have hlt:i<h.cl:=by simpa using Q
  refine⟨_,⟨rfl,E.rd⟩,?_⟩;refine⟨_,E.sees3 (o:=1) rfl,Zoz.any,(Zr1 h b (P.lg w.lg.frz2) F i O1 h.cl i O1 O1).go λ _=>?_⟩;cases T:WA b.A i h.cl i with
  |true=>
   have I:Gk b.A=true:=by
    unfold Gk;rw[z,any_eq_true];exact⟨i,mem_range.2 hlt,T⟩
   rw[I]
   repeat refine⟨rfl,?_⟩
   conv=>whnf
   exact w.lg
  |false=>
   refine⟨L,?_⟩
   conv=>whnf
   exact⟨rfl,i+1,T1,⟨rfl,O1,by rw[range_succ,any_append,G];simp[T]⟩,L1⟩
 .have hge:i=h.cl:=by simp at Q;omega
  subst hge;have H:Gk b.A=false:=by unfold Gk;rw[z];exact G
  rw[H]
  repeat refine⟨rfl,?_⟩
  conv=>whnf
  exact w.lg
def Zng(h:BH)(b:Bk)(Z:Zq U.frz h b)(an:h.rl<=h.rc):Qb S 12 #[h.v] (λ v U'=>v=.int .i64 (b.flaw Zh)/\U'=U) U:=by
 refine Qb.pure' (Qb.of (args:=[_]) Zp3 Qf S1 ?_);have ab:=Z.cs.1;have al:=Z.cl;have ai:=Z.rs.1;have am:=Z.rl
 repeat refine⟨rfl,?_⟩
 conv=>whnf
 intro B U1 V hB;have hB:Zj U1 B #[.slice h.ra h.rl h.rc,.slice h.ca h.cl h.cc]:=hB;have aa:=Z.lg V.lg.frz2;refine⟨_,hB.sees3 (o:=0) rfl,?_⟩
 repeat refine⟨rfl,?_⟩
 conv=>whnf
 apply Qg<;>intro I
 .have E:b.rs.length > 6:=by rw[ai];simp at I;omega
  have K:b.flaw Zh=2:=by unfold Bk.flaw Bk.rsF;rw[if_pos E];rfl
  rw[K]
  repeat refine⟨rfl,?_⟩
  conv=>whnf
  exact V.lg
 have E:¬b.rs.length > 6:=by rw[ai];simp at I;omega
 have Y:b.rsF Zh=Gx Zh [] b.rs:=by unfold Bk.rsF;rw[if_neg E]
 refine⟨Nat,λ i=>[(1,.pb B),(3,.int .i64 i)],λ i U'=>U1.le U'/\i<=h.rl/\Gx Zh [] b.rs=Gx Zh (b.rs.take i) (b.rs.drop i),λ i=>h.rl-i,0,T1,⟨.refl _,O1,rfl⟩,?_⟩;rintro i f U2⟨N,hi,w⟩;have z:=hB.lg N.lg;have H:=aa.lg N.lg.frz2;have G:=V.lg.trans N.lg;have ak:Ja ((i:Int)+1):=I1
 refine⟨_,z.sees3 (o:=0) rfl,?_⟩
 repeat refine⟨rfl,?_⟩
 conv=>whnf
 apply Qg<;>intro I
 .have hlt:i<h.rl:=by simpa using I
  obtain⟨ad,s,T,X,ao,hs,ah⟩:=(H.lg Qr).right hlt;rw[Ha T,Zvh]at w
  have ae:(if h.rc=0 then h.ra else h.ra.map (·.add (0*1)))=h.ra:=by
   rw[X];split
   .rfl
   .rfl
  refine⟨_,z.sees3 (o:=0) rfl,ad,i,⟨X,rfl,hlt⟩,_,hs,Znn.any,(Zoe s (Z.rn s ah)).go λ _=>?_⟩;cases hn:Zh s with
  |false=>
   rw[hn]at w;have K:b.flaw Zh=4:=by unfold Bk.flaw;rw[Y,w];rfl
   rw[K]
   repeat refine⟨rfl,?_⟩
   conv=>whnf
   exact G
  |true=>
  rw[if_pos hn]at w;refine⟨_,z.sees3 (o:=0) rfl,0,i,⟨rfl,rfl,O1,O1⟩,?_⟩;rw[ae];refine⟨_,z.sees3 (o:=0) rfl,ad,i,⟨X,rfl,hlt⟩,_,hs,?_⟩
  conv=>whnf
  intro U3 W _;refine⟨Zsh.any,(Zrs h.ra i (h.rc-0) (b.rs.take i) (((H.rs.lg Qr λ _ _ h=>h).lg W.lg λ _ _ h=>h).take O1) O1 s).go λ _=>?_⟩
  conv=>whnf
  rw[Zs5];cases hh:JB (b.rs.take i) s with
  |true=>
   rw[if_pos hh]at w;have K:b.flaw Zh=5:=by unfold Bk.flaw;rw[Y,w];rfl
   rw[K]
   repeat refine⟨rfl,?_⟩
   conv=>whnf
   exact G.trans W.lg
  |false=>
   rw[if_neg (by simp[hh])]at w
   repeat refine⟨rfl,?_⟩
   refine⟨ak,?_⟩
   conv=>whnf
   exact⟨rfl,i+1,T1,⟨N.trans W,O1,by rw[w,Wf T]⟩,L1⟩
 have aj:i=h.rl:=by simp at I;omega
 rw[drop_eq_nil_of_le O1]at w;have L:b.rsF Zh=0:=by rw[Y,w];rfl
 refine⟨_,z.sees3 (o:=1) rfl,?_⟩
 repeat refine⟨rfl,?_⟩
 conv=>whnf
 apply Qg<;>intro I
 .have E:b.cs.length > 5:=by rw[ab];simp at I;omega
  have K:b.flaw Zh=2:=by unfold Bk.flaw Bk.csF;rw[if_pos L,if_pos E];rfl
  rw[K]
  repeat refine⟨rfl,?_⟩
  conv=>whnf
  exact G
 have E:¬b.cs.length > 5:=by rw[ab];simp at I;omega
 have ac:b.csF Zh=XW Zh b.nr b.nc [] b.cs:=by unfold Bk.csF;rw[if_neg E]
 refine⟨Nat,λ k=>[(1,.pb B),(4,.int .i64 k)],λ k U'=>U'=U2/\k<=h.cl/\XW Zh b.nr b.nc [] b.cs=XW Zh b.nr b.nc ((b.cs.take k).map Cs.nm) (b.cs.drop k),λ k=>h.cl-k,0,T1,⟨rfl,O1,rfl⟩,?_⟩;rintro k f _⟨rfl,hk,F⟩;have ag:Ja ((k:Int)+1):=I1
 refine⟨_,z.sees3 (o:=1) rfl,?_⟩
 repeat refine⟨rfl,?_⟩
 conv=>whnf
 apply Qg<;>intro I
 .have hlt:k<h.cl:=by simpa using I
  obtain⟨c,T⟩:∃c,b.cs[k]?=some c:=⟨_,getElem?_eq_getElem O1⟩;rw[Ha T,Zvc]at F;refine⟨_,⟨rfl,z.rd⟩,?_⟩;refine⟨Zsj.any,(Zox h b H k c T).go λ _=>?_⟩;by_cases hz:Zq0 b.nr b.nc ((b.cs.take k).map Cs.nm) c=0
  .rw[if_pos hz]at F;rw[hz]
   repeat refine⟨rfl,?_⟩
   refine⟨ag,?_⟩
   conv=>whnf
   exact⟨rfl,k+1,T1,⟨rfl,O1,by rw[F,Wf T,map_append];rfl⟩,L1⟩
  .rw[if_neg hz]at F;have K:b.flaw Zh=Zq0 b.nr b.nc ((b.cs.take k).map Cs.nm) c:=by unfold Bk.flaw;rw[if_pos L,ac,F,if_neg hz]
   rw[K]
   repeat refine⟨rfl,?_⟩
   conv=>whnf
   apply Qg<;>intro I
   .repeat refine⟨rfl,?_⟩
    conv=>whnf
    exact G
   .exact absurd (by simpa using I) hz
 have aj:k=h.cl:=by simp at I;omega
 rw[drop_eq_nil_of_le O1]at F;have P:b.csF Zh=0:=by rw[ac,F];rfl
 have Q:=Bk.low_of P;refine⟨_,⟨rfl,z.rd⟩,?_⟩;refine⟨Zsk.any,(Zqc h b H Q).go λ _=>?_⟩
 have hA:∀i,i<b.A.length->∀k∈Jf b.A i,k<b.A.length:=by
  intro i hi k hk;rw[b.A_len]at hi ⊢;have T:b.cs[i]?=some (b.cs[i]):=getElem?_eq_getElem hi;rw[Bk.aft1_at T]at hk;obtain⟨n,hn,rfl⟩:=mem_map.1 hk;have:=Q.af _ (getElem_mem hi) n hn;unfold Bk.nc at this;omega
 rw[<- pz hA];have K:b.flaw Zh=if Wu b.A then 8 else 0:=by unfold Bk.flaw;rw[if_pos L,if_pos P]
 rw[K];cases hl:Wu b.A with
 |true=>
  repeat refine⟨rfl,?_⟩
  conv=>whnf
  exact G
 |false=>
  repeat refine⟨rfl,?_⟩
  conv=>whnf
  exact G
end
variable{U':Qa T}{e:TypeId}{vs:List Value}{c:Array Value}
def Tw1(U:Qa T)(e:TypeId)(z:Array Value)(b:Nat)(U':Qa T):Prop:=U.free b/\Hlr U b e z U'
def Tw1.le{U'':Qa T}(h:Tw1 U e z b8 U')(k:U'.le U''):Tw1 U e z b8 U'':=⟨h.1,h.2.le k⟩
def Zxr(h:U.le U')(f:U'.free b8):U.free b8:=by
 refine⟨?_,λ r z=>f.2 r (by rw[h.own];exact z)⟩;cases w:U.I b8 with
 |none=>rfl
 |some o=>have:=h.imm b8 o w;rw[f.1]at this;cases this
def Tw1.made(h:U.le U')(f:U'.free b8):Tw1 U e z b8 (U'.put b8 (.cells z e)):=⟨Zxr h f,.made h f⟩
structure Tw2(U:Qa T)(e:TypeId)(z:Array Value)(b7 b8:Nat)(U':Qa T):Prop where
 imm:∀x o,U.I x=some o->U'.I x=some o
 own:U'.M=.obj b8 (.cells z e (0,0))::.obj b7 (.cells z e (0,0))::U.M
 tok:U'.tok=U.tok
 f7:U.free b7
 f8:U.free b8
 ne:b8≠b7
def Tw2.le{U'':Qa T}(h:Tw2 U e z b7 b8 U')(k:U'.le U''):Tw2 U e z b7 b8 U'':=⟨λ x o i=>k.imm x o (h.imm x o i),k.own.trans h.own,k.tok.trans h.tok,h.f7,h.f8,h.ne⟩
def Tw2.frz(h:Tw2 U e z b7 b8 U'):U.frz.lg U':=⟨h.imm,⟨_,(append_nil _).symm⟩,h.tok⟩
def Tw1.free2(h:Tw1 U e z b8 U')(f:U'.free b7):U.free b7/\b7≠b8:=by
 refine⟨⟨?_,λ r B=>f.2 r (by rw[h.2.own];exact mem_cons_of_mem _ B)⟩,λ e'=>f.2 (.obj b8 (.cells z e (0,0))) (by rw[h.2.own];exact mem_cons_self ..) e'.symm⟩;cases w:U.I b7 with
 |none=>rfl
 |some o=>have:=h.2.imm b7 o w;rw[f.1]at this;cases this
def Tw1.made1(h:Tw1 U e z b7 U')(f:U'.free b8):∃k,Qv (U'.put b8 (.cells z e)) k/\Tw2 U e z b7 b8 k:=
 ⟨_,.refl _,h.2.imm,by show _::U'.M=_;rw[h.2.own],h.2.tok,h.1,(h.free2 f).1,(h.free2 f).2⟩
def Tw1.made2(h:Tw1 U e z b8 U')(f:U'.free b7):∃k,Qv (U'.put b7 (.cells z e)) k/\Tw2 U e z b7 b8 k:=
 ⟨_,W3 (M':=.obj b8 (.cells z e (0,0))::.obj b7 (.cells z e (0,0))::U.M) (by show(_::U'.M).Perm _;rw[h.2.own];exact Perm.swap _ _ _),h.2.imm,rfl,h.2.tok,(h.free2 f).1,h.1,(h.free2 f).2.symm⟩
def Tw3(U:Qa T)(e:TypeId)(z:Array Value)(vs:List Value)(b7 b8:Nat)(U':Qa T):Prop:=∃k,U.le k/\Zj k b7 vs.toArray/\Hlr k b8 e z U'
def Tw3.le{U'':Qa T}(h:Tw3 U e z vs b7 b8 U')(k:U'.le U''):Tw3 U e z vs b7 b8 U'':=let ⟨a,h1,h2,h3⟩:=h;⟨a,h1,h2,h3.le k⟩
def Tw3.frz(h:Tw3 U e z vs b7 b8 U'):U.frz.lg U':=let ⟨_,h1,_,h3⟩:=h;⟨λ x o i=>h3.imm x o (h1.imm x o i),⟨_,(append_nil _).symm⟩,h3.tok.trans h1.tok⟩
def Tw2.write(h:Tw2 U e z b7 b8 U')(f:z.size=vs.length)(B:∀v∈vs,v.single=true):QZ ⟨b7,0,none⟩ vs 0 (λ U''=>∃w,Qv U'' w/\Tw3 U e z vs b7 b8 w) U':=by
 refine KU [.obj b8 (.cells z e (0,0))] vs 0 z U' (M₀:=U.M) h.own B O1 ?_;rw[VQ f];refine⟨_,Wa (b:=b7) (M':=.obj b8 (.cells z e (0,0))::U.M) (Perm.swap ..),{ U with I:=Z_ U.I b7 (.cells vs.toArray e) },Gj h.f7,Zj.new,?_,rfl,h.tok,?_⟩
 .intro x o hx;simp only[Z_]at hx ⊢;split at hx
  .rename_i hxb;rw[if_pos hxb];exact hx
  .rename_i hxb;rw[if_neg hxb];exact h.imm x o hx
 .show Z_ U.I b7 _ b8=none;unfold Z_;rw[if_neg h.ne];exact h.f8.1
def Tw3.write{ws:List Value}{Q:Qa T->Prop}(h:Tw3 U e z vs b7 b8 U')(f:z.size=ws.length)(E:∀v∈ws,v.single=true)(B:∀k,U.le k->Zj k b7 vs.toArray->Zj k b8 ws.toArray->Q k):QZ ⟨b8,0,none⟩ ws 0 (λ U''=>∃k,Qv U'' k/\Q k) U':=
 let ⟨_,h1,h2,h3⟩:=h
 h3.write f E λ k w F=>B k (h1.trans w) (h2.le w) F
def Zj.sees3F{o:Nat}(h:Zj U b8 c)(b:c[o]?=some v):U.frz.sees ((Addr.mk b8 0 none).add o) v:=(show Zj U.frz b8 c from h).sees3 b
section
attribute [local irreducible] Qb Zp Wv
def Zqz(a a':Option Addr)(len cap h:Nat)(l:List ByteArray)(P:Q8 U a len 1 l λ s vs=>vs=[.string s])(H:Q8 U a' len 1 l λ s vs=>vs=[.string s])(L:len<2^60) :
  Qb S 47 #[.slice a len cap,.slice a' len h] (λ v U'=>v=.bool true/\U'=U) U:=by
 refine Qb.pure' (Qb.of (args:=[_,_]) Zsi Qf S1 ?_)
 repeat refine⟨rfl,?_⟩
 conv=>whnf
 apply Qg<;>intro w
 .exact absurd w S1
 refine⟨Nat,λ i=>[(0,.slice a len cap),(1,.slice a' len h),(5,.int .i64 i)],λ i U'=>U.le U'/\i<=len,λ i=>len-i,0,T1,⟨.refl _,O1⟩,?_⟩;rintro i f X⟨b,Z⟩;have G:Ja ((i:Int)+1):=I1
 repeat refine⟨rfl,?_⟩
 conv=>whnf
 apply Qg<;>intro w
 .have hlt:i<len:=by simpa using w
  obtain⟨N,x,vs,T,F,-,rfl,-,Q⟩:=P.at hlt;obtain⟨B,W,V,K,z,-,rfl,-,I⟩:=H.at hlt;obtain rfl:x=W:=Option.some.inj (T.symm.trans K);refine⟨N,i,⟨F,rfl,hlt⟩,_,(Q.lg b.lg) 0 _ rfl,B,i,⟨z,rfl,hlt⟩,_,(I.lg b.lg) 0 _ rfl,?_⟩
  conv=>whnf
  intro Y E _
  repeat refine⟨rfl,?_⟩
  conv=>whnf
  apply Qg<;>intro w
  .exact absurd w S1
  refine⟨G,?_⟩
  conv=>whnf
  exact⟨rfl,i+1,T1,⟨b.trans E,O1⟩,L1⟩
 repeat refine⟨rfl,?_⟩
 conv=>whnf
 exact b.lg
end
def Zpg:List (List (Nat×St)):=[[(0,.xo 31 1 2),(0,.xl 32 31),(0,.m 33 5),(0,.xi 34 4 32 33),(0,.xd 35 4 34),(0,.xo 36 1 3),(0,.xl 37 36),(0,.m 38 5),(0,.xi 39 4 37 38),(0,.xd 40 4 39),(2,.d 6 (.alloc 39 #[(.string ⟨#[]⟩),(.int .i64 0),.nl,.nl])),(2,.d 7 (.alloc 39 #[(.string ⟨#[]⟩),(.int .i64 0),.nl,.nl])),(2,⟨.st 4 (.t 6) (.t 35),none,none,none⟩)],
 [(0,.xo 31 1 2),(0,.xl 32 31),(0,.m 33 5),(0,.xi 34 4 32 33),(0,.xd 35 4 34),(0,.xo 36 1 3),(0,.xl 37 36),(0,.m 38 5),(0,.xi 39 4 37 38),(0,.xd 40 4 39),(2,.d 7 (.alloc 39 #[(.string ⟨#[]⟩),(.int .i64 0),.nl,.nl])),(2,.d 6 (.alloc 39 #[(.string ⟨#[]⟩),(.int .i64 0),.nl,.nl])),(2,⟨.st 4 (.t 6) (.t 35),none,none,none⟩)]]
def Zsr:List St:=[⟨.st 4 (.t 7) (.t 40),none,none,none⟩]
section
attribute [local irreducible] Qb Zp Wv
def Za7(h I:BH)(b:Bk)(X:Zq U.frz h b)(H:Zq U.frz I b):Qb S 11 #[h.v,I.v] (λ v U'=>v=.bool true/\U'=U) U:=by
 refine Qb.pure' (Qb.of (args:=[_,_]) Zp2 Qf S1 ?_)
 let L:Array Value:=#[.string ⟨#[]⟩,.int .i64 0,.nl,.nl]
 have ce:=X.cs.1;have ck:=X.rs.1;have bu:b.cs.length=I.cl:=H.cs.1;have b1:b.rs.length=I.rl:=H.rs.1;have e1:I.rl=h.rl:=O1
 have e2:I.cl=h.cl:=O1
 repeat refine⟨rfl,?_⟩
 conv=>whnf
 intro b2 U1 bf z;have z:Zj U1 b2 #[.slice h.ra h.rl h.rc,.slice h.ca h.cl h.cc]:=z
 conv=>whnf
 intro b3 U2 au F;have F:Zj U2 b3 #[.slice I.ra I.rl I.rc,.slice I.ca I.cl I.cc]:=F;have z:=z.le au;have ao:=bf.trans au;have X:=X.lg ao.lg.frz2;have H:=H.lg ao.lg.frz2;rw[e1,e2]at F
 repeat refine⟨rfl,?_⟩
 refine⟨_,z.sees3 (o:=0) rfl,_,F.sees3 (o:=0) rfl,Zsi.any,(Zqz h.ra I.ra h.rl h.rc I.rc b.rs (X.rs.lg Qr λ _ _ h=>h) ((show Q8 U2.frz I.ra h.rl 1 b.rs _ from e1▸H.rs).lg Qr λ _ _ h=>h) X.rl).go λ _=>?_⟩;refine⟨_,z.sees3 (o:=1) rfl,_,F.sees3 (o:=1) rfl,?_⟩
 repeat refine⟨rfl,?_⟩
 conv=>whnf
 apply Qg<;>intro Q
 .exact absurd Q S1
 refine⟨Nat,λ i=>[(2,.pb b2),(3,.pb b3),(5,.int .i64 i)],λ i U'=>U2.le U'/\i<=h.cl,λ i=>h.cl-i,0,T1,⟨.refl _,O1⟩,?_⟩;rintro i f U4⟨N,hi⟩;have bi:=X.cl;have bn:Ja ((i:Int)+1):=I1
 have z:=z.le N;have F:=F.le N;have X:=X.lg N.lg.frz2;have H:=H.lg N.lg.frz2;have bd:=ao.trans N;refine⟨_,z.sees3 (o:=1) rfl,?_⟩
 repeat refine⟨rfl,?_⟩
 conv=>whnf
 apply Qg<;>intro Q
 .have hlt:i<h.cl:=by simpa using Q
  have aj:i<h.cl:=hlt;obtain⟨ad,c,ga,gl,gc,aa,al,ac,hx,aw,cm,a3,hg,cg,ha,bh,b0⟩:=X.case hlt;obtain⟨ap,c',am,ae,an,Y,ab,Z,br,ai,b4,ak,a0,bw,bg,bt,bo⟩:=H.case (show i<I.cl by omega);obtain rfl:c=c':=Option.some.inj (hx.symm.trans br);have cf:=hg.1;have bv:=a0.1
  conv=>whnf
  intro b9 T
  refine Sf (mu:=[]) (ops:=GO Tryz.f11 6) (id:=6) T [10,11,12] [[0,1,2,3,4,5,6,7,8,9,10,11,12],[0,1,2,3,4,5,6,7,8,9,11,10,12]] [13] Zpg Zsr Qf K1 K1 K1 K1 K1
   (λ f' aq U'=>aq=[]/\∃b7 b8,Xr f' [(2,.pb b2),(3,.pb b3),(5,.int .i64 i),(6,.pb b7),(7,.pb b8),(40,.agg #[.string c.nm,.int .i64 c.ag,.slice am ae an,.slice Y ab Z])]/\Tw3 U4 39 L [.string c.nm,.int .i64 c.ag,.slice ga gl gc,.slice aa al ac] b7 b8 U') ?_ ?_
  .intro l hl;simp only[Zpg,mem_cons,not_mem_nil,or_false]at hl;rcases hl with rfl|rfl
   .refine⟨_,z.sees3F (o:=1) rfl,ad,i,⟨aw,rfl,hlt⟩,_,⟨rfl,a3⟩,_,F.sees3F (o:=1) rfl,ap,i,⟨ai,rfl,aj⟩,_,⟨rfl,ak⟩,λ v U'=>∃p,v=.pb p/\Tw1 U4 39 L p U',λ v K x2⟨p,e,w⟩B=>⟨p,e,w.le B⟩,λ v U'⟨p,e,w⟩=>w.2.frz1,λ U' P=>?_,λ v W=>?_⟩
    .conv=>whnf
     intro p hp;exact⟨_,.refl _,_,.refl _,p,rfl,.made P hp⟩
    obtain⟨_,b7,rfl,-⟩:=W;refine⟨λ v U'=>∃p,v=.pb p/\Tw2 U4 39 L b7 p U',λ v K x2⟨p,e,w⟩B=>⟨p,e,w.le B⟩,λ v U'⟨p,e,w⟩=>w.frz,λ U' P=>?_,λ v W=>?_⟩
    .obtain⟨p',e,w⟩:=P;obtain rfl:b7=p':=by simpa using e
     conv=>whnf
     intro p hp;obtain⟨K,k1,k2⟩:=w.made1 hp;exact⟨K,k1,_,.refl _,p,rfl,k2⟩
    obtain⟨_,b8,rfl,-⟩:=W;refine⟨λ v U'=>Tw3 U4 39 L [.string c.nm,.int .i64 c.ag,.slice ga gl gc,.slice aa al ac] b7 b8 U',λ v K x2 w B=>w.le B,λ v U' w=>w.frz,λ U' P=>?_,λ v W=>?_⟩
    .obtain⟨p',e,w⟩:=P;obtain rfl:b8=p':=by simpa using e
     conv=>whnf
     exact⟨rfl,QZ.mono (λ _⟨K,k1,k2⟩=>⟨K,k1,K,.refl _,k2⟩) _ _ _ (w.write (vs:=[.string c.nm,.int .i64 c.ag,.slice ga gl gc,.slice aa al ac]) rfl (by simp[Value.single]))⟩
    clear W
    conv=>whnf
    intro U' w;exact⟨rfl,b7,b8,T1,w⟩
   .refine⟨_,z.sees3F (o:=1) rfl,ad,i,⟨aw,rfl,hlt⟩,_,⟨rfl,a3⟩,_,F.sees3F (o:=1) rfl,ap,i,⟨ai,rfl,aj⟩,_,⟨rfl,ak⟩,λ v U'=>∃p,v=.pb p/\Tw1 U4 39 L p U',λ v K x2⟨p,e,w⟩B=>⟨p,e,w.le B⟩,λ v U'⟨p,e,w⟩=>w.2.frz1,λ U' P=>?_,λ v W=>?_⟩
    .conv=>whnf
     intro p hp;exact⟨_,.refl _,_,.refl _,p,rfl,.made P hp⟩
    obtain⟨_,b8,rfl,-⟩:=W;refine⟨λ v U'=>∃p,v=.pb p/\Tw2 U4 39 L p b8 U',λ v K x2⟨p,e,w⟩B=>⟨p,e,w.le B⟩,λ v U'⟨p,e,w⟩=>w.frz,λ U' P=>?_,λ v W=>?_⟩
    .obtain⟨p',e,w⟩:=P;obtain rfl:b8=p':=by simpa using e
     conv=>whnf
     intro p hp;obtain⟨K,k1,k2⟩:=w.made2 hp;exact⟨K,k1,_,.refl _,p,rfl,k2⟩
    obtain⟨_,b7,rfl,-⟩:=W;refine⟨λ v U'=>Tw3 U4 39 L [.string c.nm,.int .i64 c.ag,.slice ga gl gc,.slice aa al ac] b7 b8 U',λ v K x2 w B=>w.le B,λ v U' w=>w.frz,λ U' P=>?_,λ v W=>?_⟩
    .obtain⟨p',e,w⟩:=P;obtain rfl:b7=p':=by simpa using e
     conv=>whnf
     exact⟨rfl,QZ.mono (λ _⟨K,k1,k2⟩=>⟨K,k1,K,.refl _,k2⟩) _ _ _ (w.write (vs:=[.string c.nm,.int .i64 c.ag,.slice ga gl gc,.slice aa al ac]) rfl (by simp[Value.single]))⟩
    clear W
    conv=>whnf
    intro U' w;exact⟨rfl,b7,b8,T1,w⟩
  rintro f' aq U5⟨rfl,b7,b8,az,w⟩;rw[<- az.ovr];clear az;refine⟨rfl,w.write (ws:=[.string c.nm,.int .i64 c.ag,.slice am ae an,.slice Y ab Z]) rfl (by simp[Value.single]) λ U6 av E G=>?_⟩;have E:Zj U6 b7 #[.string c.nm,.int .i64 c.ag,.slice ga gl gc,.slice aa al ac]:=E;have G:Zj U6 b8 #[.string c.nm,.int .i64 c.ag,.slice am ae an,.slice Y ab Z]:=G;have be:=N.trans av;have hz:=av.lg.frz2
  conv=>whnf
  intro a' ah;refine⟨by rw[ah.size,T.size],_,ah.get,?_⟩;rw[ah.ds];clear ah T w;refine⟨_,E.sees3 (o:=0) rfl,_,G.sees3 (o:=0) rfl,?_⟩
  repeat refine⟨rfl,?_⟩
  conv=>whnf
  apply Jt<;>intro Q
  rotate_left
  .exact absurd Q S1
  refine⟨_,E.sees3 (o:=1) rfl,_,G.sees3 (o:=1) rfl,?_⟩
  repeat refine⟨rfl,?_⟩
  conv=>whnf
  apply Jt<;>intro Q
  rotate_left
  .exact absurd Q S1
  refine⟨_,E.sees3 (o:=3) rfl,_,G.sees3 (o:=3) rfl,G2.any,(GR aa Y al ac ab Z _ _ ((ha.lg hz).lg Qr) ((bg.lg hz).lg Qr) bh).go λ _=>?_⟩;rw[decide_eq_true rfl];refine⟨_,E.sees3 (o:=2) rfl,_,G.sees3 (o:=2) rfl,?_⟩
  repeat refine⟨rfl,?_⟩
  conv=>whnf
  apply Qg<;>intro Q
  .exfalso;simp at Q;omega
  refine⟨Nat,λ k=>[(2,.pb b2),(3,.pb b3),(5,.int .i64 i),(6,.pb b7),(7,.pb b8),(8,.int .i64 k)],λ k U'=>U6.le U'/\k<=gl,λ k=>gl-k,0,T1,⟨.refl _,O1⟩,?_⟩;rintro k f U7⟨h7,cj⟩;have a2:Ja ((k:Int)+1):=I1
  have E:=E.le h7;have G:=G.le h7;have bj:=(hg.lg (hz.trans h7.lg.frz2)).lg Qr;have bk:=(a0.lg (hz.trans h7.lg.frz2)).lg Qr;refine⟨_,E.sees3 (o:=2) rfl,?_⟩
  repeat refine⟨rfl,?_⟩
  conv=>whnf
  apply Qg<;>intro Q
  .have hltk:k<gl:=by simpa using Q
   have V:k<ae:=O1
   obtain⟨a5,g2,a7,bb,a9,bs,ax,b5,bp,bl,a1,ch⟩:=bj.at hltk;obtain⟨a6,g3,a8,bc,ba,a4,ay,b6,bq,bm,bx,bz⟩:=bk.at V;obtain rfl:g2=g3:=Option.some.inj (bs.symm.trans a4);refine⟨_,E.sees3 (o:=2) rfl,a5,k,⟨ax,rfl,hltk⟩,_,bp,_,G.sees3 (o:=2) rfl,a6,k,⟨ay,rfl,V⟩,_,bq,?_⟩
   conv=>whnf
   intro U8 h8 _;refine⟨G2.any,(GR a7 a8 bb a9 bc ba g2 g2 (bl.lg h8.lg) (bm.lg h8.lg) a1).go λ _=>?_⟩;rw[decide_eq_true rfl];refine⟨a2,?_⟩
   conv=>whnf
   exact⟨rfl,k+1,T1,⟨h7.trans h8,O1⟩,L1⟩
  refine⟨bn,?_⟩
  conv=>whnf
  exact⟨rfl,i+1,T1,⟨(be).trans h7,O1⟩,L1⟩
 repeat refine⟨rfl,?_⟩
 conv=>whnf
 exact bd.lg
end
variable{n:ByteArray}{i:Int}{seen:List ByteArray}{g:List Int}{nm:Int->ByteArray}
def Zt6(h:Zh n=true):Qyt n:=by
 unfold Zh at h;simp only[Bool.and_eq_true]at h;obtain⟨z,-,w⟩:=h
 have f:1<=n.size/\n.size<=10:=by
  simp only[QR,Bool.and_eq_true,decide_eq_true_eq]at z;omega
 have b:∀c:UInt8,Gs c=true->NoB c n:=λ c B E=>by
  rw[Bool.not_eq_true',any_eq_false]at w;exact absurd B (by simpa using w c E)
 refine⟨λ e=>?_,b 10 D1,b 44 D1,b 59 D1,f.2⟩;rw[e]at f;exact absurd f.1 D1
def Zr4:∀{l seen:List ByteArray},Gx Zh seen l=0->(∀s∈l,Zh s=true)/\l.Nodup/\∀s∈l,s∉seen
 |[],_,_=>⟨S1,.nil,S1⟩
 |s::l,seen,h=>by
  unfold Gx at h;split at h
  .rename_i hn;split at h
   .cases h
   .rename_i hb;obtain⟨z,B,w⟩:=Zr4 h;have E:s∉seen:=λ f=>hb (Znu.2 f);refine⟨λ x b=>?_,nodup_cons.2 ⟨λ f=>w s f S1,B⟩,λ x b=>?_⟩
    .rcases mem_cons.1 b with rfl|b
     .exact hn
     .exact z x b
    .rcases mem_cons.1 b with rfl|b
     .exact E
     .exact λ f=>w x b (by simp[f])
  .cases h
def Zt1{nr nc:Int}:∀{l:List Cs}{seen:List ByteArray},XW Zh nr nc seen l=0->Gx Zh seen (l.map (·.nm))=0
 |[],_,_=>rfl
 |c::l,seen,h=>by
  simp only[XW]at h;show Gx Zh seen (c.nm::l.map (·.nm))=0;unfold Gx;split at h
  .rename_i hn;rw[if_pos hn];split at h
   .cases h
   .rename_i hb;rw[if_neg hb];split at h
    .split at h
     .split at h
      .exact Zt1 h
      .rename_i h0;exact absurd h h0
     .rename_i h0;exact absurd h h0
    .cases h
  .cases h
structure Bk.Fine(b:Bk):Prop where
 ok:b.Ok
 rs:∀s∈b.rs,Qyt s
 rn:b.rs.Nodup
 cs:∀c∈b.cs,Qyt c.nm
 cn:(b.cs.map (·.nm)).Nodup
 ga:∀c∈b.cs,∀g∈c.gs,g.Pairwise (· < ·)
def Bk.fine_of(h:b.flaw Zh=0):b.Fine:=by
 have z:=Bk.ok_of h;unfold Bk.flaw at h;split at h
 .rename_i h1;split at h
  .rename_i h2;unfold Bk.rsF at h1;unfold Bk.csF at h2;split at h1
   .cases h1
   .split at h2
    .cases h2
    .obtain⟨n1,n2,-⟩:=Zr4 h1;obtain⟨F,G,-⟩:=Zr4 (Zt1 h2);refine⟨z,λ s E=>Zt6 (n1 s E),n2,λ c w=>Zt6 (F _ (mem_map.2 ⟨c,w,rfl⟩)),G,λ c w g B=>?_⟩;have f:=(Sx h2 c w).2.1;unfold XS at f;split at f
     .cases f
     .exact(vg (b:=b.nr) (by unfold Bk.nr;omega) (I_ f g B).2).2
  .rename_i h2;exact absurd h h2
 .rename_i h1;exact absurd h h1
def Bk.nmR_at(w:0<=i)(h:i<b.nr):b.rs[i.toNat]?=some (nmR b i):=by
 unfold Bk.nr at h;have f:i.toNat<b.rs.length:=O1
 unfold TM.nmR;simp[getD_eq_getElem?_getD,getElem?_eq_getElem f]
def Bk.nmC_at(w:0<=i)(h:i<b.nc):(b.cs.map (·.nm))[i.toNat]?=some (nmC b i):=by
 unfold Bk.nc at h;have f:i.toNat<(b.cs.map (·.nm)).length:=by rw[length_map];omega
 unfold TM.nmC;simp only[getD_eq_getElem?_getD,getElem?_eq_getElem f,Option.getD_some]
def Bk.Fine.ents_ok(h:b.Fine):∀e∈b.ents,e.ok:=by
 have F:∀i,0<=i->i<b.nr->Qyt (TM.nmR b i):=λ i z B=>h.rs _ (mem_of_getElem? (Bk.nmR_at z B))
 have G:∀i,0<=i->i<b.nc->Qyt (TM.nmC b i):=λ i z B=>by
  obtain⟨c,w,e⟩:=mem_map.1 (mem_of_getElem? (Bk.nmC_at z B));rw[<- e];exact h.cs c w
 intro e f;rcases mem_append.1 f with f|f
 .obtain⟨s,hs,rfl⟩:=mem_map.1 f;exact h.rs s hs
 .obtain⟨c,w,f⟩:=mem_flatMap.1 f;rcases mem_append.1 f with f|f
  .rcases mem_cons.1 f with rfl|f
   .exact⟨h.cs c w,F _ (h.ok.ag c w).1 (h.ok.ag c w).2⟩
   .obtain⟨g,hg,rfl⟩:=mem_map.1 f;refine⟨λ x E=>?_,?_⟩
    .obtain⟨n,hn,rfl⟩:=mem_map.1 E;obtain⟨z,B⟩:=(h.ok.gs c w g hg).2 n hn;exact F n z B
    .rw[length_map];have:=(h.ok.gs c w g hg).1;omega
  .split at f
   .cases f
   .rename_i hne;rw[mem_singleton.1 f];refine⟨λ x E=>?_,?_,λ e=>hne (map_eq_nil_iff.1 e)⟩
    .obtain⟨n,hn,rfl⟩:=mem_map.1 E;obtain⟨z,B⟩:=h.ok.af c w n hn;exact G n z B
    .rw[length_map];have:=(h.ok.asc w).1;omega
def Zw4(h:∀e∈l,∀n,e≠.rt n):rsN l=[]:=by
 unfold rsN;rw[filterMap_eq_nil_iff];intro e b;cases e with
 |rt n=>exact absurd rfl (h _ b n)
 |_=>rfl
def Bk.entsC_rs(c:Cs):rsN (b.entsC c)=[]:=by
 refine Zw4 λ e f n h=>?_;subst h;simp only[Bk.entsC,cons_append,mem_cons,mem_append,mem_map]at f;rcases f with f|⟨g,-,f⟩|f
 .cases f
 .cases f
 .split at f
  .cases f
  .simp at f
def Bk.entsC_cs(c:Cs):csN (b.entsC c)=[c.nm]:=by
 have f:csN (c.gs.map λ g=>Ent.gr (g.map (nmR b)))=[]:=by
  unfold csN;rw[filterMap_eq_nil_iff];intro e w;obtain⟨g,-,rfl⟩:=mem_map.1 w;rfl
 have h:csN (if c.af=[]then[]else[.af (c.af.map (nmC b))])=[]:=by
  split <;> rfl
 show csN ((.cs c.nm (nmR b c.ag)::(c.gs.map λ g=>.gr (g.map (nmR b))))++_)=_;rw[Zo4,h,append_nil];show c.nm::csN _=_;rw[f]
def Zta:∀(l:List Cs),rsN (l.flatMap b.entsC)=[]
 |[]=>rfl
 |c::l=>by rw[flatMap_cons,Zpn,Bk.entsC_rs,Zta l];rfl
def Zsz:∀(l:List Cs),csN (l.flatMap b.entsC)=l.map (·.nm)
 |[]=>rfl
 |c::l=>by rw[flatMap_cons,Zo4,Bk.entsC_cs,Zsz l];rfl
def Zw5:∀(l:List ByteArray),rsN (l.map Ent.rt)=l
 |[]=>rfl
 |s::l=>by show s::rsN (l.map Ent.rt)=_;rw[Zw5 l]
def Zwo:∀(l:List ByteArray),csN (l.map Ent.rt)=[]
 |[]=>rfl
 |s::l=>by show csN (l.map Ent.rt)=_;rw[Zwo l]
def Bk.ents_rs:rsN b.ents=b.rs:=by unfold Bk.ents;rw[Zpn,Zw5,Zta,append_nil]
def Bk.ents_cs:csN b.ents=b.cs.map (·.nm):=by unfold Bk.ents;rw[Zo4,Zwo,Zsz,nil_append]
def Zwv{X:List Ent}(b:∀la,Zro la X):∀(l:List ByteArray)(la:Option Ent),(la=none\/∃n,la=some (.rt n))->Zro la (l.map Ent.rt++X)
 |[],la,_=>b la
 |s::l,la,h=>by
  refine⟨?_,Zwv b l _ (.inr ⟨s,rfl⟩)⟩;rcases h with rfl|⟨n,rfl⟩ <;> exact trivial
def Zwu{Z:List Ent}(b:∀e,((∃n m,e=Ent.cs n m)\/∃l,e=Ent.gr l)->Zro (some e) Z):∀(l:List (List ByteArray))(e:Ent),((∃n m,e=Ent.cs n m)\/∃l,e=Ent.gr l)->Zro (some e) (l.map Ent.gr++Z)
 |[],e,h=>b e h
 |g::l,e,h=>by
  refine⟨?_,Zwu b l _ (.inr ⟨g,rfl⟩)⟩;rcases h with⟨n,m,rfl⟩|⟨l,rfl⟩ <;> exact trivial
def Zwt:∀(l:List Cs)(la:Option Ent),Zro la (l.flatMap b.entsC)
 |[],_=>trivial
 |c::l,la=>by
  have f:=Zwt l;rw[flatMap_cons]
  have h:b.entsC c++l.flatMap b.entsC=.cs c.nm (nmR b c.ag)::((c.gs.map λ g=>g.map (nmR b)).map Ent.gr++((if c.af=[]then[]else[.af (c.af.map (nmC b))])++l.flatMap b.entsC)):=by
   simp[Bk.entsC,append_assoc]
  rw[h];refine⟨by cases la <;> exact trivial,Zwu (λ e w=>?_) _ _ (.inl ⟨_,_,rfl⟩)⟩;split
  .exact f _
  .refine⟨?_,f _⟩;rcases w with⟨n,m,rfl⟩|⟨l,rfl⟩ <;> exact trivial
def Bk.ents_fol:Zro none b.ents:=Zwv (Zwt _) _ _ (.inl rfl)
def Qzw.app{ra ca:List ByteArray}:∀{l r:List Ent}{s b f:RSt},Qzw ra ca s l b->Qzw ra ca b r f->Qzw ra ca s (l++r) f
 |[],_,_,_,_,h,k=>by rw[show _=_ from h];exact k
 |_::l,_,_,_,_,⟨B,w,z⟩,k=>⟨B,w,z.app k⟩
def Zt8{ra ca:List ByteArray}{X:List Ent}{b:RSt}:∀(l s:List ByteArray),s.length+l.length<=40->Qzw ra ca (s++l,[],none) X b->Qzw ra ca (s,[],none) (l.map Ent.rt++X) b
 |[],s,_,h=>by simpa using h
 |x::l,s,f,h=>by
  rw[length_cons]at f;exact⟨(s++[x],[],none),⟨rfl,by show s.length<40;omega⟩,Zt8 l (s++[x]) S3 (by simpa using h)⟩
def Zws(h:∀n∈g,0<=n/\seen[n.toNat]?=some (nm n))(B:g.length<=12)(F:g.Pairwise (· < ·)):Zxg seen (g.map nm) (g.map Int.toNat)/\Qky (g.map Int.toNat)=g:=by
 refine⟨⟨λ i x b=>?_,S1,by simpa using B,?_⟩,?_⟩
 .rw[getElem?_map]at b;cases f:g[i]? with
  |none=>rw[f]at b;cases b
  |some n=>
   rw[f]at b;obtain rfl:nm n=x:=by simpa using b
   exact⟨n.toNat,by rw[getElem?_map,f];rfl,(h n (mem_of_getElem? f)).2⟩
 .rw[pairwise_map];refine(Pairwise.and_mem.1 F).imp λ{a c}⟨w,G,z⟩=>?_;have:=(h a w).1;omega
 .unfold Qky;rw[map_map]
  conv=>rhs;rw[<- map_id g]
  refine map_congr_left λ n E=>?_;show((n.toNat:Nat):Int)=n;have:=(h n E).1;omega
def Zt7{ra ca:List ByteArray}{r:List ByteArray}{cs:List Cs}{n:ByteArray}{q:Int}{nm:Int->ByteArray}:∀(l b:List (List Int)),b.length+l.length<=40->(∀g∈l,Zxg ra (g.map nm) (g.map Int.toNat)/\Qky (g.map Int.toNat)=g) ->
  Qzw ra ca (r,cs,some ⟨n,q,b,[]⟩) (l.map λ g=>Ent.gr (g.map nm)) (r,cs,some ⟨n,q,b++l,[]⟩)
 |[],b,_,_=>by simp[Qzw]
 |g::l,b,z,h=>by
  obtain⟨f,w⟩:=h g (mem_cons_self ..);rw[length_cons]at z;refine⟨(r,cs,some ⟨n,q,b++[g],[]⟩),⟨_,g.map Int.toNat,rfl,f,by show b.length<40;omega,by rw[w]⟩,?_⟩;have:=Zt7 (ra:=ra) (ca:=ca) (r:=r) (cs:=cs) (n:=n) (q:=q) (nm:=nm) l (b++[g]) S3 λ x B=>h x (mem_cons_of_mem _ B);simpa using this
def Bk.Fine.path_cs(h:b.Fine){r:List ByteArray}:∀(l w:List Cs)(cur:Option Cs),(∀c∈l,c∈b.cs)->w.length+cur.toList.length+l.length<=10 ->
  ∃f,Qzw b.rs (b.cs.map (·.nm)) (r,w,cur) (l.flatMap b.entsC) f/\f.1=r/\f.2.1++f.2.2.toList=w++cur.toList++l/\f.2.1.length<40
 |[],w,cur,_,K=>⟨_,rfl,rfl,S1,by show w.length<40;omega⟩
 |c::l,w,cur,L,K=>by
  have z:=L c (mem_cons_self ..);rw[length_cons]at K;obtain⟨f,Q,S,T,U⟩:=h.path_cs (r:=r) l (w++cur.toList) (some c) (λ x P=>L x (mem_cons_of_mem _ P)) S3;refine⟨f,?_,S,by rw[T];simp,U⟩;rw[flatMap_cons];refine Qzw.app ?_ Q;have B:=h.ok.ag c z;refine⟨(r,w++cur.toList,some ⟨c.nm,(c.ag.toNat:Nat),[],[]⟩),⟨c.ag.toNat,Bk.nmR_at B.1 B.2,rfl,by show w.length<39;omega⟩,?_⟩;rw[Int.toNat_of_nonneg B.1];refine Qzw.app (Zt7 (nm:=nmR b) c.gs [] (by have:=h.ok.gl c z;simp;omega) λ g H=>Zws (λ n I=>?_) ?_ (h.ga c z g H)) ?_
  .obtain⟨F,G⟩:=(h.ok.gs c z g H).2 n I;exact⟨F,Bk.nmR_at F G⟩
  .have:=(h.ok.gs c z g H).1;omega
  rw[nil_append];obtain⟨cn,V,N,E⟩:=c;split
  .rename_i he;simp only at he;subst he;exact rfl
  .obtain⟨f1,f2⟩:=Zws (seen:=b.cs.map (·.nm)) (nm:=nmC b) (g:=E) (λ n I=>by
    obtain⟨F,G⟩:=h.ok.af _ z n I;exact⟨F,Bk.nmC_at F G⟩) (by have:=(h.ok.asc z).1;simp only at this;omega) (h.ok.asc z).2
   exact⟨_,⟨_,E.map Int.toNat,rfl,f1,by rw[f2]⟩,rfl⟩
def Bk.Fine.path(h:b.Fine):∃f,Qzw b.rs (b.cs.map (·.nm)) ([],[],none) b.ents f/\f.1=b.rs/\f.2.1++f.2.2.toList=b.cs/\f.2.1.length<40:=by
 obtain⟨f,w,z,B,E⟩:=h.path_cs (r:=b.rs) b.cs [] none (λ _ h=>h) (by have:=h.ok.nc;simp;omega);exact⟨f,Zt8 b.rs [] (by have:=h.ok.nr;simp;omega) w,z,by simpa using B,E⟩
def Ent.line_size{e:Ent}(h:e.ok):e.line.size<=200:=by
 cases e with
 |rt n=>
  have h:=(show Qyt n from h).sz;show(_++byB 58++Qal (byB 59) ([n]++[ByteArray.empty])).size<=200;rw[Qn0];simp only[ByteArray.size_append,Qbd];show 5+1+_<=200;omega
 |cs n a=>
  obtain⟨b,f⟩:=(show Qyt n/\Qyt a from h);have b:=b.sz;have f:=f.sz;show(_++byB 58++Qal (byB 59) ([n,a]++[ByteArray.empty])).size<=200;rw[Zok];simp only[ByteArray.size_append,Qbd];show 4+1+_<=200;omega
 |gr l=>
  obtain⟨b,f⟩:=(show(∀x∈l,Qyt x)/\l.length<=10 from h);have z:=Qpt λ x w=>(b x w).sz;show(_++byB 58++Qal (byB 59) ([Qal (byB 44) l]++[ByteArray.empty])).size<=200;rw[Qn0];simp only[ByteArray.size_append,Qbd];show 6+1+_<=200;omega
 |af l=>
  obtain⟨b,f,-⟩:=(show(∀x∈l,Qyt x)/\l.length<=10/\l≠[] from h);have z:=Qpt λ x w=>(b x w).sz;show(_++byB 58++Qal (byB 59) ([Qal (byB 44) l]++[ByteArray.empty])).size<=200;rw[Qn0];simp only[ByteArray.size_append,Qbd];show 5+1+_<=200;omega
def Zrm:∀{l:List Ent},(∀e∈l,e.ok)->(Qeg l).size<=l.length*201
 |[],_=>by simp[Qeg,Qdb]
 |e::l,h=>by
  have w:=Ent.line_size (h e (mem_cons_self ..));have z:=Zrm λ x f=>h x (mem_cons_of_mem _ f);have b:Qeg (e::l)=(e.line++byB 10)++Qeg l:=rfl;rw[b,length_cons];simp only[ByteArray.size_append,Qbd];omega
def Zt2:∀{l:List Cs}(_:∀c∈l,c.gs.length<=3),(l.flatMap b.entsC).length<=l.length*5
 |[],_=>S1
 |c::l,h=>by
  have w:=h c (mem_cons_self ..);have z:=Zt2 λ x f=>h x (mem_cons_of_mem _ f);rw[flatMap_cons,length_append,length_cons]
  have B:(b.entsC c).length<=5:=by
   unfold Bk.entsC;rw[cons_append,length_cons,length_append,length_map];split <;> simp <;> omega
  omega
def Bk.Fine.ents_len(h:b.Fine):b.ents.length<=31:=by
 have f:=Zt2 (b:=b) h.ok.gl;have w:=h.ok.nr;have z:=h.ok.nc;unfold Bk.ents;rw[length_append,length_map];omega
def Bk.Fine.txt_size(h:b.Fine):(Qeg b.ents).size<=50000:=by
 have f:=Zrm h.ents_ok;have w:=h.ents_len;omega
def Zxb(es:List Ent):Zvb es (es.map lnE):=⟨S1,λ k e y f b=>by
 rw[getElem?_map,f]at b;exact .inl (by simpa[lnE]using b.symm)⟩
def Zxc(l:List Ent)(e:Ent):Zvb (l++[e]) (l.map lnE++[e.line]):=⟨S1,λ k x y f b=>by
 rw[getElem?_append]at f b;rw[length_map]at b;split at f
 .rename_i hlt;rw[if_pos hlt,getElem?_map,f]at b;exact .inl (by simpa[lnE]using b.symm)
 .rename_i hge;rw[if_neg hge]at b;have h:k=l.length:=by have:=(List.getElem?_eq_some_iff.1 f).1;simp at this;omega
  subst h;simp at f b;subst f b;exact .inr ⟨S1,rfl⟩⟩
def Zwn(l:List Ent)(e:Ent):(Qeg (l++[e])).extract 0 ((Qeg (l++[e])).size-1)=Qdb (l.map lnE++[e.line]):=by
 have b:Qeg (l++[e])=(Qeg l++e.line)++byB 10++ByteArray.empty:=by rw[<- Zj2];simp[ByteArray.append_assoc]
 have f:Qdb (l.map lnE++[e.line])=Qeg l++e.line:=by
  rw[Zqg];show Qeg l++(e.line++ByteArray.empty)=_;simp
 have h:(Qeg (l++[e])).size-1=(Qeg l++e.line).size:=by
  rw[b];simp only[ByteArray.size_append,Qbd,ByteArray.size_empty];omega
 rw[f,h,b];exact Zwp ..
section
attribute [local irreducible] Qb Zp Wv
structure Zr8(b:Bk):Prop where
 r:∀s∈b.rs,s.size<2^50
 c:∀c∈b.cs,c.nm.size<2^50
def Zqr(h:BH)(b:Bk)(V:Zq U.frz h b)(Z:Zr8 b):Qb S 5 #[h.v] (λ v U'=>(∃g,v=.bool g)/\U'=U) U:=by
 refine Qb.pure' (Qb.of (args:=[_]) Zt0 Qf S1 ?_);have a3:=V.cs.1;have au:=V.cl;have a7:=V.rs.1;have ax:=V.rl
 repeat refine⟨rfl,?_⟩
 conv=>whnf
 intro B U1 E P;have P:Zj U1 B #[.slice h.ra h.rl h.rc,.slice h.ca h.cl h.cc]:=P;have N:=V.lg E.lg.frz2;refine⟨_,P.sees3 (o:=0) rfl,?_⟩
 repeat refine⟨rfl,?_⟩
 conv=>whnf
 apply Jt<;>intro z
 rotate_left
 .repeat refine⟨rfl,?_⟩
  conv=>whnf
  exact⟨⟨_,rfl⟩,E.lg⟩
 have aw:h.rl<=40:=by simp at z;omega
 refine⟨_,P.sees3 (o:=1) rfl,?_⟩
 repeat refine⟨rfl,?_⟩
 conv=>whnf
 apply Qg<;>intro z
 .repeat refine⟨rfl,?_⟩
  conv=>whnf
  exact⟨⟨_,rfl⟩,E.lg⟩
 have aq:h.cl<=40:=by simp at z;omega
 refine⟨Nat×Nat,λ y=>[(1,.pb B),(3,.int .i64 y.2),(4,.int .i64 y.1)],λ y U'=>U'=U1/\y.1<=h.rl/\y.2<=y.1*1125899906842624,λ y=>h.rl-y.1,(0,0),T1,⟨rfl,S1,S1⟩,?_⟩;rintro⟨i,n⟩f U2⟨hU,hi,hn⟩;obtain rfl:=hU.symm;simp only at hi hn;have K:Ja ((i:Int)+1):=I1
 refine⟨_,P.sees3 (o:=0) rfl,?_⟩
 repeat refine⟨rfl,?_⟩
 conv=>whnf
 apply Qg<;>intro z
 .have hlt:i<h.rl:=by simpa using z
  obtain⟨ad,s,hx,T,ap,hs,I⟩:=(N.lg Qr).right hlt;have a8:=Z.r s I;have H:Ja ((n:Int)+(s.size:Nat)):=I1
  have am:n+s.size<=(i+1)*1125899906842624:=O1
  refine⟨_,P.sees3 (o:=0) rfl,ad,i,⟨T,rfl,hlt⟩,_,hs,H,K,?_⟩
  conv=>whnf
  exact⟨rfl,(i+1,n+s.size),T1,⟨rfl,by show i+1<=_;omega,am⟩,L1⟩
 have ak:n<=(40+0)*1125899906842624:=Nat.le_trans hn (Nat.mul_le_mul_right _ (by omega:i<=40+0));clear K;refine⟨Nat×Nat,λ y=>[(1,.pb B),(3,.int .i64 y.2),(5,.int .i64 y.1)],λ y U'=>U1.le U'/\y.1<=h.cl/\y.2<=(40+y.1)*1125899906842624,λ y=>h.cl-y.1,(0,n),T1,⟨.refl _,S1,ak⟩,?_⟩;rintro⟨k,m⟩f U3⟨F,hk,hm⟩;simp only at hk hm;have K:Ja ((k:Int)+1):=I1
 have L:=P.lg F.lg;have W:=N.lg F.lg.frz2;refine⟨_,L.sees3 (o:=1) rfl,?_⟩
 repeat refine⟨rfl,?_⟩
 conv=>whnf
 apply Qg<;>intro z
 .have hlt:k<h.cl:=by simpa using z
  obtain⟨ad,c,ga,gl,gc,aa,al,ac,hx,T,ap,an,hg,a5,ha,a2,I⟩:=W.case hlt;have a9:=Z.c c I;refine⟨_,L.sees3 (o:=1) rfl,ad,k,⟨T,rfl,hlt⟩,_,⟨rfl,an.lg Qr⟩,?_⟩
  conv=>whnf
  intro b5 ae;refine⟨_,.refl _,rfl,Zv (vs:=[.string c.nm,.int .i64 c.ag,.slice ga gl gc,.slice aa al ac]) ae rfl (by simp[Value.single]) λ U4 Q G=>?_⟩;have w:U.lg U4:=E.lg.trans (F.lg.trans Q.lg);have ah:=(hg.lg Q.lg.frz2);have H:Ja ((m:Int)+(c.nm.size:Nat)):=I1
  have aj:m+c.nm.size<=(40+(k+1))*1125899906842624:=O1
  refine⟨_,G.sees3 (o:=2) rfl,?_⟩
  repeat refine⟨rfl,?_⟩
  conv=>whnf
  apply Jt<;>intro z
  rotate_left
  .repeat refine⟨rfl,?_⟩
   conv=>whnf
   exact⟨⟨_,rfl⟩,w⟩
  refine⟨_,G.sees3 (o:=3) rfl,?_⟩
  repeat refine⟨rfl,?_⟩
  conv=>whnf
  apply Qg<;>intro z
  .repeat refine⟨rfl,?_⟩
   conv=>whnf
   exact⟨⟨_,rfl⟩,w⟩
  refine⟨Nat,λ j=>[(1,.pb B),(3,.int .i64 m),(5,.int .i64 k),(6,.pb b5),(7,.int .i64 j)],λ j U'=>U'=U4/\j<=gl,λ j=>gl-j,0,T1,⟨rfl,O1⟩,?_⟩;rintro j f U5⟨hU,hj⟩;obtain rfl:=hU.symm;have Y:Ja ((j:Int)+1):=I1
  refine⟨_,G.sees3 (o:=2) rfl,?_⟩
  repeat refine⟨rfl,?_⟩
  conv=>whnf
  apply Qg<;>intro z
  .have hltj:j<gl:=by simpa using z
   obtain⟨ab,g,az,a1,a0,a4,X,ay,ao,ai,av,a6⟩:=(Wl.lg ah Qr).at hltj;refine⟨_,G.sees3 (o:=2) rfl,ab,j,⟨X,rfl,hltj⟩,_,ao,?_⟩
   repeat refine⟨rfl,?_⟩
   conv=>whnf
   apply Qg<;>intro z
   .repeat refine⟨rfl,?_⟩
    conv=>whnf
    exact⟨⟨_,rfl⟩,w⟩
   refine⟨Y,?_⟩
   conv=>whnf
   exact⟨rfl,j+1,T1,⟨rfl,O1⟩,L1⟩
  refine⟨_,G.sees3 (o:=0) rfl,H,K,?_⟩
  conv=>whnf
  exact⟨rfl,(k+1,m+c.nm.size),T1,⟨F.trans Q,by show k+1<=_;omega,aj⟩,L1⟩
 repeat refine⟨rfl,?_⟩
 conv=>whnf
 exact⟨⟨_,rfl⟩,E.lg.trans F.lg⟩
def Zpt(h:BH)(b:Bk)(G:Zq U.frz h b)(I:JY U)(B:b.flaw Zh≠0) :
  Qb S 7 #[h.v] (λ v U'=>v=.tuple #[.string ⟨#[]⟩,.int .i64 (b.flaw Zh)]/\U.le U') U:=by
 refine Qb.of (args:=[_]) Zpl Qf S1 ?_
 conv=>whnf
 intro F E f z;have w:Jj E ⟨F,0,none⟩ [.slice h.ra h.rl h.rc,.slice h.ca h.cl h.cc]:=z.rd;refine⟨_,⟨rfl,w⟩,K6.any,(Yt h b (((G.lg f.lg.frz2)).lg Qr) (I.lg f.lg)).go λ _=>?_⟩;refine⟨rfl,?_⟩
 conv=>whnf
 apply Qg<;>intro H
 .conv=>whnf
  exact⟨rfl,f⟩
 .exact absurd (by simpa using H) B
def Zpu(h:BH)(b:Bk)(E:Zq U.frz h b)(G:JY U)(f:b.flaw Zh=0) :
  Qb S 7 #[h.v] (λ v U'=>v=.tuple #[.string (Qeg b.ents),.int .i64 0]/\U.le U') U:=by
 have w:=Bk.fine_of f;exact(Zqu h b E G f w.txt_size (λ s H=>(w.rs s H).sz) λ c F=>(w.cs c F).sz).mono λ v U'⟨e,B,z⟩=>⟨e,⟨z.imm,B,z.tok⟩⟩
def Zl0(b:Bk)(P:JY U)(z:b.flaw Zh=0)(yl:List ByteArray)(T:Zvb b.ents yl)(B:(Qdb yl).size<=60000) :
  Qb S 9 #[.string (Qdb yl)] (λ v U'=>(∃q:BH,v=.tuple #[q.v,.int .i64 0,.int .i64 0]/\Zq U'.frz q b/\q.rl<=q.rc)/\U.le U') U:=by
 have w:=Bk.fine_of z;obtain⟨f,V,K,L,W⟩:=w.path;have E:(⟨f.1,f.2.1++f.2.2.toList⟩:Bk)=b:=by rw[K,L]
 refine Qb.post (Zqt b.ents yl T w.ents_ok Bk.ents_fol (by rw[Bk.ents_rs];exact w.rn) (by rw[Bk.ents_cs];exact w.cn) (by have:=w.ents_len;omega) f (by rw[Bk.ents_rs,Bk.ents_cs];exact V) B P W (λ s I=>?_) (λ c G=>?_) (by rw[E];exact z)) ?_
 .rw[K]at I;have:=(w.rs s I).sz;omega
 .rw[L]at G;have:=(w.cs c G).sz;omega
 rintro v U'⟨⟨q,e,F,Q⟩,H,X,N⟩;rw[E]at F;exact⟨{ U' with M:=U.M },In (M':=U.M) ⟨X,N.trans perm_append_comm⟩,⟨q,e,F.lg ⟨λ _ _ h=>h,⟨[],rfl⟩,rfl⟩,Q⟩,⟨H.imm,rfl,H.tok⟩⟩
def Zxd{U:Qa Tk}(Y:U.tok=⟨0,.out,none⟩)(hk:JY U)(h:BH)(b:Bk)(hb:Zq U.frz h b)(ax:Zr8 b)(ak:h.rl<=h.rc)(av:h.cl<=h.cc) :
  J (Za prog 173 6) (Fin prog λ v U'=>v=.bool true/\U.lg U') true (Rf (Frame.enter prog 4 #[h.v] .normal) []) U:=by
 have _:=av;refine Zot (args:=[_]) (Q:=λ v U'=>v=.bool true/\U.lg U') Zxn Qf K1 S1 (λ v U' q=>q.2.tok.trans Y) ?_;have fin:∀U2:Qa Tk,U.lg U2->Qb (Za prog 173 6) 6 #[] (λ v U'=>v=.bool true/\U'=U2) U2:=λ U2 h=>Zlw (h.tok.trans Y) (hk.lg h)
 repeat refine⟨rfl,?_⟩
 conv=>whnf
 intro B U1 f hB;have hB:Zj U1 B #[.slice h.ra h.rl h.rc,.slice h.ca h.cl h.cc]:=hB;have z:=hb.lg f.lg.frz2;have P:∀w:Qa Tk,U1.lg w->Jj w ⟨B,0,none⟩ [.slice h.ra h.rl h.rc,.slice h.ca h.cl h.cc]:=λ w hw=>(hB.lg hw).rd;refine⟨_,⟨rfl,P _ ⟨λ _ _ h=>h,⟨[],rfl⟩,rfl⟩⟩,Zt0.any,(Zqr h b z ax).mono ?_⟩;rintro _ U'⟨⟨g,rfl⟩,aq⟩-;obtain rfl:=aq.symm
 repeat refine⟨rfl,?_⟩
 conv=>whnf
 apply Qg<;>intro hc
 .refine⟨p_.any,(fin _ f.lg).go λ _=>?_⟩
  repeat refine⟨rfl,?_⟩
  conv=>whnf
  exact f.lg
 clear hc;have aa:U1.lg U1:=⟨λ _ _ h=>h,⟨[],rfl⟩,rfl⟩;refine⟨_,⟨rfl,P _ aa⟩,?_⟩
 conv=>whnf
 by_cases G:b.flaw Zh=0
 .refine⟨Zpl.any,(Zpu h b z (hk.lg f.lg) G).mono ?_⟩;rintro _ U2⟨rfl,E⟩-;refine⟨_,⟨rfl,P _ E.lg⟩,Zp3.any,(Zng h b (z.lg E.lg.frz2) ak).go λ _=>?_⟩;rw[G];refine⟨rfl,rfl,?_⟩
  conv=>whnf
  have hf:=Bk.fine_of G;have a2:=hf.txt_size;refine⟨Zrx.any,(Zl0 b ((hk.lg f.lg).lg E.lg) G (b.ents.map lnE) (Zxb _) (by show(Qeg b.ents).size<=_;omega)).mono ?_⟩;rintro _ U3⟨⟨q,rfl,hq,a1⟩,ad⟩-
  conv=>whnf
  intro b5 au;refine⟨_,.refl _,rfl,Wd (e:=25) (c:=[.nl,.nl].toArray) (vs:=[.slice q.ra q.rl q.rc,.slice q.ca q.cl q.cc]) [] rfl rfl (by simp[Value.single]) λ L ab an H=>?_⟩;have ae:U3.frz.lg L.frz:=⟨λ x o k=>by show L.I x=_;rw[ab];exact k,⟨[],rfl⟩,by show L.tok=_;rw[an];rfl⟩
  have H:L.M=.cl b5 [.slice q.ra q.rl q.rc,.slice q.ca q.cl q.cc] 25::U.M:=by
   rw[H];show _::U3.M=_;rw[ad.own,E.own,f.own]
  have F:U1.frz.lg L.frz:=E.lg.frz2.trans (ad.lg.frz2.trans ae);have Z:U.lg L:=⟨λ x o k=>F.imm x o (f.imm x o k),⟨[_],by rw[H];rfl⟩,F.tok.trans f.tok⟩;have aw:=hk.lg Z;have al:Jj L ⟨b5,0,none⟩ [.slice q.ra q.rl q.rc,.slice q.ca q.cl q.cc]:=Q9 [] H;have K:Jj L ⟨B,0,none⟩ [.slice h.ra h.rl h.rc,.slice h.ca h.cl h.cc]:=(Zj.imI (U':=L) hB F.imm).rd;clear au ab an;refine⟨rfl,rfl,_,⟨rfl,al⟩,_,⟨rfl,K⟩,Zp2.any,(Za7 q h b (hq.lg ae) (z.lg F)).go λ _=>?_⟩;refine⟨rfl,?_⟩
  conv=>whnf
  apply Qg<;>intro hc
  .refine⟨p_.any,(fin _ Z).go λ _=>?_⟩
   conv=>whnf
   exact⟨rfl,rfl,Z⟩
  have X:(Qeg b.ents).size≠0:=by
   intro e;rw[e]at hc;exact absurd hc S1
  clear hc
  obtain⟨l0,e0,ai⟩:∃l e,b.ents=l++[e]:=by
   rcases eq_nil_or_concat b.ents with h0|⟨l,e,h0⟩
   .exfalso;rw[h0]at X;exact X rfl
   .exact⟨l,e,by rw[h0,concat_eq_append]⟩
  refine⟨I1,?_⟩
  conv=>whnf
  refine Qf5 0 ((Qeg b.ents).size-1) vb rfl ?_ O1 O1 ?_
  .have e1:((Qeg b.ents).size:Int)-1=(((Qeg b.ents).size-1:Nat):Int):=O1
   show Ot (Qeg b.ents).size none (some (.int .i64 (((Qeg b.ents).size:Int)-1)))=_;rw[e1];rfl
  have T:(Qeg b.ents).extract 0 ((Qeg b.ents).size-1)=Qdb (l0.map lnE++[e0.line]):=by rw[ai];exact Zwn l0 e0
  have ao:(Qdb (l0.map lnE++[e0.line])).size<=60000:=by
   rw[<- T,ByteArray.size_extract];omega
  rw[T];refine⟨Zrx.any,(Zl0 b aw G _ (by rw[ai];exact Zxc l0 e0) ao).mono ?_⟩;rintro _ U5⟨⟨q',rfl,ay,a0⟩,ag⟩-;refine⟨rfl,Wd (e:=25) (c:=[.slice q.ra q.rl q.rc,.slice q.ca q.cl q.cc].toArray) (vs:=[.slice q'.ra q'.rl q'.rc,.slice q'.ca q'.cl q'.cc]) [] (by rw[ag.own];exact H) rfl (by simp[Value.single]) λ S ap az ac=>?_⟩;have ah:U5.frz.lg S.frz:=⟨λ x o k=>by show S.I x=_;rw[ap];exact k,⟨[],rfl⟩,by show S.tok=_;rw[az];rfl⟩;have N:U1.frz.lg S.frz:=F.trans (ag.lg.frz2.trans ah);have W:U.lg S:=⟨λ x o k=>N.imm x o (f.imm x o k),⟨[_],by rw[ac];rfl⟩,N.tok.trans f.tok⟩;have am:Jj S ⟨b5,0,none⟩ [.slice q'.ra q'.rl q'.rc,.slice q'.ca q'.cl q'.cc]:=Q9 [] ac;have K:Jj S ⟨B,0,none⟩ [.slice h.ra h.rl h.rc,.slice h.ca h.cl h.cc]:=(Zj.imI (U':=S) hB N.imm).rd;refine⟨rfl,rfl,_,⟨rfl,am⟩,_,⟨rfl,K⟩,Zp2.any,(Za7 q' h b (ay.lg ah) (z.lg N)).go λ _=>?_⟩;refine⟨p_.any,(fin _ W).go λ _=>?_⟩
  conv=>whnf
  exact⟨rfl,rfl,W⟩
 .refine⟨Zpl.any,(Zpt h b z (hk.lg f.lg) G).mono ?_⟩;rintro _ U2⟨rfl,E⟩-;have V:=f.lg.trans E.lg;refine⟨_,⟨rfl,P _ E.lg⟩,Zp3.any,(Zng h b (z.lg E.lg.frz2) ak).go λ _=>?_⟩;have aj:(b.flaw Zh != 0)=true:=by simpa using G
  refine⟨rfl,?_⟩;rw[aj];refine⟨rfl,?_⟩;rw[aj]
  conv=>whnf
  rw[Zq4 (a:=⟨#[]⟩) (b:=⟨#[]⟩) rfl];refine⟨p_.any,(fin _ V).go λ _=>?_⟩
  conv=>whnf
  exact⟨rfl,rfl,V⟩
