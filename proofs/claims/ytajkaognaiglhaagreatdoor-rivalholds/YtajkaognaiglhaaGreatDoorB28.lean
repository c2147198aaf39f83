/- Lemmas. No conditions. -/
import Derived.Test.YtajkaognaiglhaaGreatDoorB27
set_option linter.all false
set_option maxRecDepth 100000
namespace Go.TM
def Bk.stF(b:Bk)(r:Int)(e:Bool):Option (List (Int×Int)):=b.staF r e λ m=>Hq (b.crL r.toNat (X3 e) m) b.cans.length
end Go.TM
namespace Go.Proofs
open Go.TM
def TX{U:Qa Tk}(f:U.tok=⟨0,.out,none⟩)(h:BH)(b:Bk)(B:Zt U.frz h b)(E:JT U)(r:Int)(e:Bool) :
  Qb Zs 7 #[h.v,.int .i64 r,.bool e] (λ v U'=>(∃w,v=.tuple #[w,.bool (b.stF r e).isSome,.int .i64 (b.askF r)]/\XX U'.frz w ((b.stF r e).getD []))/\U.le U') U:=
 R3 f h b B E r e _ λ z _ _ m F _=>⟨Bk.certD (Bk.askF_ok z).1 F,SS _ _⟩
end Go.Proofs
namespace Go.TM
def Dm:Wc.flaw Zk=0:=K1
def Nh:(Wc.outF [0,1,2],Wc.ends [0,1,2])=(0,[false,false,true],[true,true,false]):=K1
def Ni:(Wc.outF [1,0,2],Wc.ends [1,0,2])=(0,[false,true,false],[false,true,true]):=K1
def Nj:Wc.wdF 1=[0]:=K1
def LN:Wc.dcF 0=[1]:=K1
def Mh:Wc.dcF 1=[0,1]:=K1
def Gq:(Wc.askF 0,Wc.askF 1,Wc.askF 2)=(0,0,0):=K1
end Go.TM
namespace Go.Proofs
open Go.TM
def TC:(Wc.stF 1 true,Wc.stF 2 true)=(some [(0,1)],some [(1,0),(2,0)]):=K1
end Go.Proofs
namespace Go.TM
variable{T:Type}{U U':Qa T}
def WP.c{a:Option Addr}{l:List Bool}{len cap:Nat}(h:WP U (.slice a len cap) l):len=l.length/\W_ U a l.length l:=by
 obtain⟨a',f,e,h⟩:=h;cases e;exact⟨rfl,rfl,h⟩
def XU{b:Nat}{l:List Int}(h:Zo U b (l.map λ n=>Value.int .i64 n).toArray):Z8 U (some ⟨b,0,none⟩) l.length l:=
 h.ints λ i x e=>by simp[e]
def Dy{b:Nat}{l:List (Int×Int)}(h:Zo U b (l.flatMap Go.Proofs.encII).toArray):Zd U (some ⟨b,0,none⟩) l.length 2 l (λ x vs=>vs=Go.Proofs.encII x):=
 HF (enc:=Go.Proofs.encII) (n:=2) (λ _=>rfl) (.inr ⟨_,rfl,h.rd⟩) (λ f e=>by cases e;rfl) D1
end Go.TM
namespace Go.Proofs
open Go.TM
attribute [local irreducible] Qb Zr W5
set_option maxHeartbeats 4000000 in
def Zau{U:Qa Tk}(ay:U.tok=⟨0,.out,none⟩)(hk:JT U):Qb Zs 6 #[] (λ v U'=>v=.bool true/\U'=U) U:=by
 refine Qb.pure' (Qb.of (args:=[]) MV Qd S1 ?_);refine⟨DR.any,NS.mono ?_⟩;rintro _ s1⟨⟨h,rfl,I⟩,h1⟩-
 conv=>whnf
 intro b1 dj;refine⟨_,.refl _,rfl,Zy (vs:=[.slice h.ra h.rl h.rc,.slice h.ca h.cl h.cc]) dj rfl (by simp[Value.single]) λ s2 h2 e=>?_⟩;have e:Zo s2 b1 #[.slice h.ra h.rl h.rc,.slice h.ca h.cl h.cc]:=e;have I:Zt s2.frz h Wc:=I.lg h2.lg.frz2;have e2:U.le s2:=h1.trans h2;refine⟨_,⟨rfl,e.rd⟩,?_⟩
 conv=>whnf
 intro c3 dh;refine Zm dh λ s3 h3 dk=>?_;have z3:s2.frz.lg s3.frz:=h3.lg.frz2;have e3:U.le s3:=e2.trans h3;have e:=e.le h3;have I:=I.lg z3;have il:Z8 s3.frz (some ⟨c3,0,none⟩) 3 [0,1,2]:=XU (l:=[0,1,2]) (dk.imI λ _ _ h=>h);refine⟨Yt.any,(T_ h Wc I (hk.lg e3.lg) _ 3 3 [0,1,2] il D1).mono ?_⟩;rintro _ s4⟨⟨v1,v2,rfl,K,hy⟩,h4⟩-;obtain⟨ah,ag⟩:=Prod.mk.inj Nh;have ag:Wc.ends (List.map Int.toNat [0,1,2])=_:=ag;rw[ah,if_pos rfl,ag]at K hy;rw[ah];obtain⟨xa,xc,rfl,-⟩:=id K;obtain⟨ya,yc,rfl,-⟩:=id hy;have f:=K.c.2;have w:=hy.c.2;clear il K hy ah ag;have z4:s3.frz.lg s4.frz:=h4.lg.frz2;have e4:U.le s4:=e3.trans h4;have e:=e.le h4;have I:=I.lg z4;refine⟨_,⟨rfl,e.rd⟩,?_⟩
 conv=>whnf
 intro c5 di;refine Zm di λ s5 h5 dl=>?_;have z5:s4.frz.lg s5.frz:=h5.lg.frz2;have e5:U.le s5:=e4.trans h5;have e:=e.le h5;have I:=I.lg z5;have f:=f.lg z5;have w:=w.lg z5;have il:Z8 s5.frz (some ⟨c5,0,none⟩) 3 [1,0,2]:=XU (l:=[1,0,2]) (dl.imI λ _ _ h=>h);refine⟨Yt.any,(T_ h Wc I (hk.lg e5.lg) _ 3 3 [1,0,2] il D1).mono ?_⟩;rintro _ s6⟨⟨v1,v2,rfl,K,hy⟩,h6⟩-;obtain⟨ah,ag⟩:=Prod.mk.inj Ni;have ag:Wc.ends (List.map Int.toNat [1,0,2])=_:=ag;rw[ah,if_pos rfl,ag]at K hy;rw[ah];obtain⟨ua,uc,rfl,-⟩:=id K;obtain⟨va,vc,rfl,-⟩:=id hy;have z:=K.c.2;have B:=hy.c.2;clear il K hy ah ag;have z6:s5.frz.lg s6.frz:=h6.lg.frz2;have e6:U.le s6:=e5.trans h6;have e:=e.le h6;have I:=I.lg z6;have f:=f.lg z6;have w:=w.lg z6;refine⟨_,⟨rfl,e.rd⟩,?_⟩;refine⟨DS.any,(R2 h Wc I (hk.lg e6.lg)).mono ?_⟩;rintro _ s7⟨⟨v1,v2,rfl,K,hy⟩,h7⟩-;rw[Dm,if_pos rfl]at K hy;rw[Dm];rw[Uk.1]at K;rw[Uk.2]at hy;obtain⟨ra,rc,rfl,fr⟩:=K;obtain⟨ca,cc,rfl,E⟩:=hy;have z7:s6.frz.lg s7.frz:=h7.lg.frz2;have e7:U.le s7:=e6.trans h7;have e:=e.le h7;have I:=I.lg z7;have f:=f.lg z7;have w:=w.lg z7;have z:=z.lg z7;have B:=B.lg z7;refine⟨_,⟨rfl,e.rd⟩,?_⟩;refine⟨DT.any,(NM h Wc I (hk.lg e7.lg) 1).mono ?_⟩;rintro _ s8⟨⟨v1,v2,rfl,K,hy⟩,h8⟩-;have ea:Wc.askF 1=0:=(Prod.mk.inj (Prod.mk.inj Gq).2).1;rw[ea,if_pos rfl]at K hy;rw[ea];have ba:(Wc.difS (Int.toNat 1) true).map (λ(k:Nat)=>(k:Int))=[1,0,2]:=by rw[show Wc.difS (Int.toNat 1) true=_ from Eu.1];rfl
 have bb:(Wc.difS (Int.toNat 1) false).map (λ(k:Nat)=>(k:Int))=[0,1,2]:=by rw[show Wc.difS (Int.toNat 1) false=_ from Eu.2];rfl
 rw[ba]at K;rw[bb]at hy;obtain⟨la,lc,rfl,G⟩:=K;obtain⟨ka,kc,rfl,F⟩:=hy;clear ea ba bb;have z8:s7.frz.lg s8.frz:=h8.lg.frz2;have e8:U.le s8:=e7.trans h8;have e:=e.le h8;have I:=I.lg z8;have f:=f.lg z8;have w:=w.lg z8;have z:=z.lg z8;have B:=B.lg z8;have fr:=fr.lg z8;have E:=E.lg z8;refine⟨_,⟨rfl,e.rd⟩,?_⟩;refine⟨YW.any,(TX (e8.tok.trans ay) h Wc I (hk.lg e8.lg) 1 true).mono ?_⟩;rintro _ s9⟨⟨v1,rfl,K⟩,h9⟩-;have es:Wc.stF 1 true=some [(0,1)]:=(Prod.mk.inj TC).1;have ea:Wc.askF 1=0:=(Prod.mk.inj (Prod.mk.inj Gq).2).1;rw[es]at K;rw[es,ea];obtain⟨sa,sc,rfl,H,-⟩:=K;have H:Zd s9.frz sa 1 2 [(0,1)] (λ x vs=>vs=encII x):=H;clear es ea;have z9:s8.frz.lg s9.frz:=h9.lg.frz2;have e9:U.le s9:=e8.trans h9;have e:=e.le h9;have I:=I.lg z9;have f:=f.lg z9;have w:=w.lg z9;have z:=z.lg z9;have B:=B.lg z9;have fr:=fr.lg z9;have E:=E.lg z9;have G:=G.lg z9;have F:=F.lg z9;refine⟨_,⟨rfl,e.rd⟩,?_⟩;refine⟨YW.any,(TX (e9.tok.trans ay) h Wc I (hk.lg e9.lg) 2 true).mono ?_⟩;rintro _ ai⟨⟨v1,rfl,K⟩,az⟩-;have es:Wc.stF 2 true=some [(1,0),(2,0)]:=(Prod.mk.inj TC).2;have ea:Wc.askF 2=0:=(Prod.mk.inj (Prod.mk.inj Gq).2).2;rw[es]at K;rw[es,ea];obtain⟨ta,tc,rfl,ft,-⟩:=K;have ft:Zd ai.frz ta 2 2 [(1,0),(2,0)] (λ x vs=>vs=encII x):=ft;clear es ea;have af:s9.frz.lg ai.frz:=az.lg.frz2;have a7:U.le ai:=e9.trans az;have e:=e.le az;have I:=I.lg af;have f:=f.lg af;have w:=w.lg af;have z:=z.lg af;have B:=B.lg af;have fr:=fr.lg af;have E:=E.lg af;have G:=G.lg af;have F:=F.lg af;have H:=H.lg af λ _ _ h=>h;refine⟨_,⟨rfl,e.rd⟩,?_⟩;refine⟨DU.any,(ND h Wc I (hk.lg a7.lg) 1).mono ?_⟩;rintro _ a3⟨⟨v1,rfl,K⟩,a0⟩-;have ea:Wc.askF 1=0:=(Prod.mk.inj (Prod.mk.inj Gq).2).1;rw[Nj]at K;rw[ea];obtain⟨wa,wc,rfl,L⟩:=K;clear ea;have ae:ai.frz.lg a3.frz:=a0.lg.frz2;have a8:U.le a3:=a7.trans a0;have e:=e.le a0;have I:=I.lg ae;have f:=f.lg ae;have w:=w.lg ae;have z:=z.lg ae;have B:=B.lg ae;have fr:=fr.lg ae;have E:=E.lg ae;have G:=G.lg ae;have F:=F.lg ae;have H:=H.lg ae λ _ _ h=>h;have ft:=ft.lg ae λ _ _ h=>h;refine⟨_,⟨rfl,e.rd⟩,?_⟩;refine⟨Yw.any,(TW h Wc I (hk.lg a8.lg) 0).mono ?_⟩;rintro _ a4⟨⟨v1,rfl,K⟩,a1⟩-;have ea:Wc.askF 0=0:=(Prod.mk.inj Gq).1;rw[LN]at K;rw[ea];obtain⟨ma,mc,rfl,fm⟩:=K;clear ea;have ad:a3.frz.lg a4.frz:=a1.lg.frz2;have a9:U.le a4:=a8.trans a1;have e:=e.le a1;have I:=I.lg ad;have f:=f.lg ad;have w:=w.lg ad;have z:=z.lg ad;have B:=B.lg ad;have fr:=fr.lg ad;have E:=E.lg ad;have G:=G.lg ad;have F:=F.lg ad;have H:=H.lg ad λ _ _ h=>h;have ft:=ft.lg ad λ _ _ h=>h;have L:=L.lg ad;refine⟨_,⟨rfl,e.rd⟩,?_⟩;refine⟨Yw.any,(TW h Wc I (hk.lg a9.lg) 1).mono ?_⟩;rintro _ a5⟨⟨v1,rfl,K⟩,a2⟩-;have ea:Wc.askF 1=0:=(Prod.mk.inj (Prod.mk.inj Gq).2).1;rw[Mh]at K;rw[ea];obtain⟨na,nc,rfl,fn⟩:=K;clear ea;have M:a4.frz.lg a5.frz:=a2.lg.frz2;have c1:U.le a5:=a9.trans a2;have e:=e.le a2;have I:=I.lg M;have f:=f.lg M;have w:=w.lg M;have z:=z.lg M;have B:=B.lg M;have fr:=fr.lg M;have E:=E.lg M;have G:=G.lg M;have F:=F.lg M;have H:=H.lg M λ _ _ h=>h;have ft:=ft.lg M λ _ _ h=>h;have L:=L.lg M;have fm:=fm.lg M
 repeat refine⟨rfl,?_⟩
 conv=>whnf
 intro co bp;refine Zm bp λ aj bc b4=>?_;have N:a5.frz.lg aj.frz:=bc.lg.frz2;have c2:U.le aj:=c1.trans bc;have f:=f.lg N;have w:=w.lg N;have z:=z.lg N;have B:=B.lg N;have fr:=fr.lg N;have E:=E.lg N;have G:=G.lg N;have F:=F.lg N;have H:=H.lg N λ _ _ h=>h;have ft:=ft.lg N λ _ _ h=>h;have L:=L.lg N;have fm:=fm.lg N;have fn:=fn.lg N;have q:W_ aj.frz (some ⟨co,0,none⟩) 3 [false,false,true]:=Vs (l:=[false,false,true]) (b4.imI λ _ _ h=>h);refine⟨Pp.any,(W6 xa _ 3 xc 3 3 [false,false,true] [false,false,true] (f.lg Qy) (q.lg Qy) D1).go λ _=>?_⟩;rw[decide_eq_true (rfl:([false,false,true]:List Bool)=[false,false,true])];clear q
 conv=>whnf
 intro cp bq;refine Zm bq λ ak bd b5=>?_;have P:aj.frz.lg ak.frz:=bd.lg.frz2;have c4:U.le ak:=c2.trans bd;have f:=f.lg P;have w:=w.lg P;have z:=z.lg P;have B:=B.lg P;have fr:=fr.lg P;have E:=E.lg P;have G:=G.lg P;have F:=F.lg P;have H:=H.lg P λ _ _ h=>h;have ft:=ft.lg P λ _ _ h=>h;have L:=L.lg P;have fm:=fm.lg P;have fn:=fn.lg P;have q:W_ ak.frz (some ⟨cp,0,none⟩) 3 [true,true,false]:=Vs (l:=[true,true,false]) (b5.imI λ _ _ h=>h);refine⟨Pp.any,(W6 ya _ 3 yc 3 3 [true,true,false] [true,true,false] (w.lg Qy) (q.lg Qy) D1).go λ _=>?_⟩;rw[decide_eq_true (rfl:([true,true,false]:List Bool)=[true,true,false])];clear q
 conv=>whnf
 intro cq br;refine Zm br λ al be b6=>?_;have Q:ak.frz.lg al.frz:=be.lg.frz2;have c6:U.le al:=c4.trans be;have f:=f.lg Q;have w:=w.lg Q;have z:=z.lg Q;have B:=B.lg Q;have fr:=fr.lg Q;have E:=E.lg Q;have G:=G.lg Q;have F:=F.lg Q;have H:=H.lg Q λ _ _ h=>h;have ft:=ft.lg Q λ _ _ h=>h;have L:=L.lg Q;have fm:=fm.lg Q;have fn:=fn.lg Q;have q:W_ al.frz (some ⟨cq,0,none⟩) 3 [false,true,false]:=Vs (l:=[false,true,false]) (b6.imI λ _ _ h=>h);refine⟨Pp.any,(W6 ua _ 3 uc 3 3 [false,true,false] [false,true,false] (z.lg Qy) (q.lg Qy) D1).go λ _=>?_⟩;rw[decide_eq_true (rfl:([false,true,false]:List Bool)=[false,true,false])];clear q
 conv=>whnf
 intro cr bs;refine Zm bs λ am bf b7=>?_;have S:al.frz.lg am.frz:=bf.lg.frz2;have c7:U.le am:=c6.trans bf;have f:=f.lg S;have w:=w.lg S;have z:=z.lg S;have B:=B.lg S;have fr:=fr.lg S;have E:=E.lg S;have G:=G.lg S;have F:=F.lg S;have H:=H.lg S λ _ _ h=>h;have ft:=ft.lg S λ _ _ h=>h;have L:=L.lg S;have fm:=fm.lg S;have fn:=fn.lg S;have q:W_ am.frz (some ⟨cr,0,none⟩) 3 [false,true,true]:=Vs (l:=[false,true,true]) (b7.imI λ _ _ h=>h);refine⟨Pp.any,(W6 va _ 3 vc 3 3 [false,true,true] [false,true,true] (B.lg Qy) (q.lg Qy) D1).go λ _=>?_⟩;rw[decide_eq_true (rfl:([false,true,true]:List Bool)=[false,true,true])];clear q
 conv=>whnf
 intro cs bt;refine Zm bt λ an bg b8=>?_;have T:am.frz.lg an.frz:=bg.lg.frz2;have c8:U.le an:=c7.trans bg;have f:=f.lg T;have w:=w.lg T;have z:=z.lg T;have B:=B.lg T;have fr:=fr.lg T;have E:=E.lg T;have G:=G.lg T;have F:=F.lg T;have H:=H.lg T λ _ _ h=>h;have ft:=ft.lg T λ _ _ h=>h;have L:=L.lg T;have fm:=fm.lg T;have fn:=fn.lg T;have q:Z8 an.frz (some ⟨cs,0,none⟩) 3 [2,0,0]:=XU (l:=[2,0,0]) (b8.imI λ _ _ h=>h);refine⟨Yx.any,(TR ra _ 3 rc 3 3 [2,0,0] [2,0,0] (fr.lg Qy) (q.lg Qy) D1).go λ _=>?_⟩;rw[decide_eq_true (rfl:([2,0,0]:List Int)=[2,0,0])];clear q
 conv=>whnf
 intro ct bu;refine Zm bu λ ao bh b9=>?_;have V:an.frz.lg ao.frz:=bh.lg.frz2;have c9:U.le ao:=c8.trans bh;have f:=f.lg V;have w:=w.lg V;have z:=z.lg V;have B:=B.lg V;have fr:=fr.lg V;have E:=E.lg V;have G:=G.lg V;have F:=F.lg V;have H:=H.lg V λ _ _ h=>h;have ft:=ft.lg V λ _ _ h=>h;have L:=L.lg V;have fm:=fm.lg V;have fn:=fn.lg V;have q:Z8 ao.frz (some ⟨ct,0,none⟩) 3 [0,1,0]:=XU (l:=[0,1,0]) (b9.imI λ _ _ h=>h);refine⟨Yx.any,(TR ca _ 3 cc 3 3 [0,1,0] [0,1,0] (E.lg Qy) (q.lg Qy) D1).go λ _=>?_⟩;rw[decide_eq_true (rfl:([0,1,0]:List Int)=[0,1,0])];clear q
 conv=>whnf
 intro cu bv;refine Zm bv λ ap bi ce=>?_;have W:ao.frz.lg ap.frz:=bi.lg.frz2;have da:U.le ap:=c9.trans bi;have f:=f.lg W;have w:=w.lg W;have z:=z.lg W;have B:=B.lg W;have fr:=fr.lg W;have E:=E.lg W;have G:=G.lg W;have F:=F.lg W;have H:=H.lg W λ _ _ h=>h;have ft:=ft.lg W λ _ _ h=>h;have L:=L.lg W;have fm:=fm.lg W;have fn:=fn.lg W;have q:Z8 ap.frz (some ⟨cu,0,none⟩) 3 [1,0,2]:=XU (l:=[1,0,2]) (ce.imI λ _ _ h=>h);refine⟨Gl.any,(P1 la _ 3 lc 3 3 [1,0,2] [1,0,2] (G.lg Qy) (q.lg Qy) D1).go λ _=>?_⟩;rw[decide_eq_true (rfl:([1,0,2]:List Int)=[1,0,2])];clear q
 conv=>whnf
 intro cv bw;refine Zm bw λ aq bj cf=>?_;have X:ap.frz.lg aq.frz:=bj.lg.frz2;have db:U.le aq:=da.trans bj;have f:=f.lg X;have w:=w.lg X;have z:=z.lg X;have B:=B.lg X;have fr:=fr.lg X;have E:=E.lg X;have G:=G.lg X;have F:=F.lg X;have H:=H.lg X λ _ _ h=>h;have ft:=ft.lg X λ _ _ h=>h;have L:=L.lg X;have fm:=fm.lg X;have fn:=fn.lg X;have q:Z8 aq.frz (some ⟨cv,0,none⟩) 3 [0,1,2]:=XU (l:=[0,1,2]) (cf.imI λ _ _ h=>h);refine⟨Gl.any,(P1 ka _ 3 kc 3 3 [0,1,2] [0,1,2] (F.lg Qy) (q.lg Qy) D1).go λ _=>?_⟩;rw[decide_eq_true (rfl:([0,1,2]:List Int)=[0,1,2])];clear q
 conv=>whnf
 intro cw bx;refine Zm bx λ au bk cg=>?_;have Y:aq.frz.lg au.frz:=bk.lg.frz2;have dc:U.le au:=db.trans bk;have f:=f.lg Y;have w:=w.lg Y;have z:=z.lg Y;have B:=B.lg Y;have fr:=fr.lg Y;have E:=E.lg Y;have G:=G.lg Y;have F:=F.lg Y;have H:=H.lg Y λ _ _ h=>h;have ft:=ft.lg Y λ _ _ h=>h;have L:=L.lg Y;have fm:=fm.lg Y;have fn:=fn.lg Y;have q:Zd au.frz (some ⟨cw,0,none⟩) 1 2 [(0,1)] (λ x vs=>vs=encII x):=Dy (l:=[(0,1)]) (cg.imI λ _ _ h=>h);refine⟨YX.any,(TQ sa _ 1 sc 1 1 [(0,1)] [(0,1)] (H.lg Qy λ _ _ h=>h) (q.lg Qy λ _ _ h=>h) D1).go λ _=>?_⟩;rw[decide_eq_true (rfl:([(0,1)]:List (Int×Int))=[(0,1)])];clear q
 conv=>whnf
 intro cx bz;refine Zm bz λ av bl ch=>?_;have Z:au.frz.lg av.frz:=bl.lg.frz2;have dd:U.le av:=dc.trans bl;have f:=f.lg Z;have w:=w.lg Z;have z:=z.lg Z;have B:=B.lg Z;have fr:=fr.lg Z;have E:=E.lg Z;have G:=G.lg Z;have F:=F.lg Z;have H:=H.lg Z λ _ _ h=>h;have ft:=ft.lg Z λ _ _ h=>h;have L:=L.lg Z;have fm:=fm.lg Z;have fn:=fn.lg Z;have q:Zd av.frz (some ⟨cx,0,none⟩) 2 2 [(1,0),(2,0)] (λ x vs=>vs=encII x):=Dy (l:=[(1,0),(2,0)]) (ch.imI λ _ _ h=>h);refine⟨YX.any,(TQ ta _ 2 tc 2 2 [(1,0),(2,0)] [(1,0),(2,0)] (ft.lg Qy λ _ _ h=>h) (q.lg Qy λ _ _ h=>h) D1).go λ _=>?_⟩;rw[decide_eq_true (rfl:([(1,0),(2,0)]:List (Int×Int))=[(1,0),(2,0)])];clear q
 conv=>whnf
 intro cy b0;refine Zm b0 λ aw bm cj=>?_;have aa:av.frz.lg aw.frz:=bm.lg.frz2;have de:U.le aw:=dd.trans bm;have f:=f.lg aa;have w:=w.lg aa;have z:=z.lg aa;have B:=B.lg aa;have fr:=fr.lg aa;have E:=E.lg aa;have G:=G.lg aa;have F:=F.lg aa;have H:=H.lg aa λ _ _ h=>h;have ft:=ft.lg aa λ _ _ h=>h;have L:=L.lg aa;have fm:=fm.lg aa;have fn:=fn.lg aa;have q:Z8 aw.frz (some ⟨cy,0,none⟩) 1 [0]:=XU (l:=[0]) (cj.imI λ _ _ h=>h);refine⟨Gl.any,(P1 wa _ 1 wc 1 1 [0] [0] (L.lg Qy) (q.lg Qy) D1).go λ _=>?_⟩;rw[decide_eq_true (rfl:([0]:List Int)=[0])];clear q
 conv=>whnf
 intro cz b2;refine Zm b2 λ ax bn ck=>?_;have ab:aw.frz.lg ax.frz:=bn.lg.frz2;have df:U.le ax:=de.trans bn;have f:=f.lg ab;have w:=w.lg ab;have z:=z.lg ab;have B:=B.lg ab;have fr:=fr.lg ab;have E:=E.lg ab;have G:=G.lg ab;have F:=F.lg ab;have H:=H.lg ab λ _ _ h=>h;have ft:=ft.lg ab λ _ _ h=>h;have L:=L.lg ab;have fm:=fm.lg ab;have fn:=fn.lg ab;have q:Z8 ax.frz (some ⟨cz,0,none⟩) 1 [1]:=XU (l:=[1]) (ck.imI λ _ _ h=>h);refine⟨Gl.any,(P1 ma _ 1 mc 1 1 [1] [1] (fm.lg Qy) (q.lg Qy) D1).go λ _=>?_⟩;rw[decide_eq_true (rfl:([1]:List Int)=[1])];clear q
 conv=>whnf
 intro c0 b3;refine Zm b3 λ a6 bo cm=>?_;have ac:ax.frz.lg a6.frz:=bo.lg.frz2;have dg:U.le a6:=df.trans bo;have f:=f.lg ac;have w:=w.lg ac;have z:=z.lg ac;have B:=B.lg ac;have fr:=fr.lg ac;have E:=E.lg ac;have G:=G.lg ac;have F:=F.lg ac;have H:=H.lg ac λ _ _ h=>h;have ft:=ft.lg ac λ _ _ h=>h;have L:=L.lg ac;have fm:=fm.lg ac;have fn:=fn.lg ac;have q:Z8 a6.frz (some ⟨c0,0,none⟩) 2 [0,1]:=XU (l:=[0,1]) (cm.imI λ _ _ h=>h);refine⟨Gl.any,(P1 na _ 2 nc 2 2 [0,1] [0,1] (fn.lg Qy) (q.lg Qy) D1).go λ _=>?_⟩;rw[decide_eq_true (rfl:([0,1]:List Int)=[0,1])];clear q
 repeat refine⟨rfl,?_⟩
 conv=>whnf
 exact dg.lg
end Go.Proofs

