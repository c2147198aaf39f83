/- Lemmas. No conditions. -/
import Derived.Test.YtcakpkianonbkaaGreatDoorC00
import Derived.Test.YtcakpkianonbkaaGreatDoorC02
import Derived.Test.YtcakpkianonbkaaGreatDoorC03
import Derived.Test.YtcakpkianonbkaaGreatDoorB45
set_option linter.all false
set_option maxRecDepth 100000
open List
namespace Go.TM
variable{T:Type}{U U':Qa T}
def Qe9(s e:Nat)(p:List Nat)(k:Nat):Bool:=decide (s+p.getD k 0 % 400<=e)
def Q1y{s e e':Nat}{p:List Nat}(h:e<=e')(k:Nat)(hk:Qe9 s e p k=true):Qe9 s e' p k=true:=by
 unfold Qe9 at *;simp at *;omega
def Q0x{q:Nat->Bool}(k:Nat):((range (k+1)).filter q).map Qd4=((range k).filter q).map Qd4++(if q k then[Qd4 k]else[]):=by
 rw[range_succ,filter_append,map_append];cases h:q k <;> simp[h]
def Q67(c:UInt8):(⟨#[111,112,112]⟩:ByteArray)++ByteArray.empty.push c = "opp".toUTF8.push c:=by
 have h:("opp".toUTF8:ByteArray)=⟨#[111,112,112]⟩:=by decide +kernel
 rw[h];rfl
def Qq6:("right".toUTF8:ByteArray)=⟨#[114,105,103,104,116]⟩:=by decide +kernel
def Zev(k:Nat):(Qd4 k).nm.size<2^60:=by
 have h:("opp".toUTF8:ByteArray)=⟨#[111,112,112]⟩:=by decide +kernel
 show("opp".toUTF8.push _).size<_;rw[h];show 4<_;decide
def Q60{U:Qa T}{nm:ByteArray}{bg:Nat}(h:Zd U bg #[.slice none 0 0])(k:Nat)(hn:nm=(Qd4 k).nm):Q1z U (Qd4 k) [.string nm,.int .i64 0,.slice (some ⟨bg,0,none⟩) 1 1,.slice none 0 0]:=by
 subst hn;refine⟨_,_,_,_,_,_,rfl,⟨rfl,λ i x hx=>?_⟩,by decide,⟨rfl,λ i x hx=>by cases hx⟩,by decide⟩
 obtain rfl:i=0:=by
  have:=(List.getElem?_eq_some_iff.1 hx).1;simp[Qd4]at this;omega
 obtain rfl:x=[]:=by
  have:([[]]:List (List Int))[0]?=some x:=hx;simpa using this.symm
 refine⟨_,[.slice none 0 0],rfl,rfl,⟨none,0,0,rfl,⟨rfl,λ i x hx=>by cases hx⟩,by decide⟩,rfl,?_⟩;have:=h.reads (vs:=[.slice none 0 0]) (o:=0) (λ k v hv=>by simpa using hv);simpa[Addr.add]using this
end Go.TM
namespace Go.Proofs
open Go.TM
attribute [local irreducible] Qb Zh We
def Qki:List (List (Nat×St)):=[[(0,.m 93 16),(0,.m 94 6),(0,.m 95 24),(1,.d 96 (.call (.func 8) #[(.t 94),(.t 95)])),(0,⟨.ar .rem (.t 96) (.ci 400),some 97,none,none⟩),(0,.d 98 (.add (.t 93) (.t 97))),(0,.m 99 17),(0,.m 100 19),(0,.m 102 22),(2,.d 101 (.bsl 3 2 #[(.int .i64 0),(.int .i64 0)] [(0,1,(.t 99)),(1,1,(.t 100))])),(0,.xi 103 1 101 102),(2,.xl 104 103)]]
def Qrc:List St:=[.xc 105 .leq 98 104]
def Qxa:List St:=[.xd 116 2 23,.d 117 (.call (.func 10) #[(.t 116),(.ci 0)]),.m 115 117,.xe 118 115 0,.xe 119 115 1,.m 25 118,.m 26 119]
def Q6z:SlT Tryz.prog 41 48 4:=.of (by kernel_rfl)
set_option maxHeartbeats 8000000 in
def Zfv{U:Qa Tk}(htok:U.tok=⟨0,.out,none⟩)(hk:Chk U)(hL:Qzy U)(h:FH)(c:Cal)(l:List Ap)(hx:Qpa U.frz h c l)(day later count more unit:Nat)(hday:day<65536)(hlat:later<65536)(hcnt:count<256)(hmor:more<256)(hun:unit<256)
  (pa:Option Addr) (pl pc:Nat) (p:List Nat) (hp:Qx U.frz pa pl 1 p λ(n:Nat)vs=>vs=[.int .u16 (n:Int)]/\n<65536) :
  J (Zb Tryz.prog 175 6) (Fin Tryz.prog λ v U'=>v=.bool true/\U.lg U') true (Rf (Frame.enter Tryz.prog 3 #[h.v,.int .u16 day,.int .u16 later,.int .u8 count,.int .u8 more,.int .u8 unit,.slice pa pl pc] .normal) []) U:=by
 refine Zuq (args:=[_,_,_,_,_,_,_]) (Q:=λ v U'=>v=.bool true/\U.lg U') Zf5 Qd (by kernel_rfl) (by simp) (λ v U' q=>q.2.tok.trans htok) ?_;have fin:∀U2:Qa Tk,U.lg U2->Qb (Zb Tryz.prog 175 6) 6 #[] (λ v U'=>v=.bool true/\U'=U2) U2:=λ U2 h=>Zrh (h.tok.trans htok) (hk.lg h);have hp':∀{w:Qa Tk},U.frz.lg w->Qx w pa pl 1 p λ(n:Nat)vs=>vs=[.int .u16 (n:Int)]/\n<65536:=λ{w}hl=>Qx.lg (R':=λ(n:Nat)vs=>vs=[.int .u16 (n:Int)]/\n<65536) hp hl λ _ _ h=>h
 repeat refine⟨rfl,?_⟩
 conv=>whnf
 intro B U1 h_1 hB;have hB:Zd U1 B h.l.toArray:=hB;have hr:Z7 U1 ⟨B,0,none⟩ h.l:=hB.reads (λ k v hv=>by simpa using hv);have hx_1:=hx.lg h_1.lg.frz2;refine⟨_,⟨rfl,hr⟩,Zph.any,(Zpg h c l hx_1).mono ?_⟩;rintro _ U'⟨⟨g,rfl,hg⟩,hU'⟩-;obtain rfl:=hU'.symm;cases g with
 |false=>
  refine⟨Zpi.any,(fin _ h_1.lg).go λ _=>?_⟩
  repeat refine⟨rfl,?_⟩
  conv=>whnf
  exact h_1.lg
 |true=>
 have hf:c.flaw=0:=hg rfl;have e1:(unit:Int).tmod 3=((unit % 3:Nat):Int):=Zqx unit 3;have e2:(day:Int).tmod 30000=((day % 30000:Nat):Int):=Zqx day 30000;have e3:(count:Int).tmod 60=((count % 60:Nat):Int):=Zqx count 60;have e4:(later:Int).tmod 100=((later % 100:Nat):Int):=Zqx later 100;have e5:(more:Int).tmod 20=((more % 20:Nat):Int):=Zqx more 20;have w1:IntKind.wrap .i64 ((unit % 3:Nat):Int)=((unit % 3:Nat):Int):=wrap64 (by omega);have w2:IntKind.wrap .i64 (day:Int)=(day:Int):=wrap64 (by omega);have w3:IntKind.wrap .i64 (count:Int)=(count:Int):=wrap64 (by omega);have w4:IntKind.wrap .i64 (later:Int)=(later:Int):=wrap64 (by omega);have w5:IntKind.wrap .i64 (more:Int)=(more:Int):=wrap64 (by omega);have hu2:unit % 3<=2:=by omega
 have hs2:day % 30000<30000:=by omega
 have hc2:count % 60<60:=by omega
 have hl2:later % 100<100:=by omega
 have hm2:more % 20<20:=by omega
 generalize unit % 3=u at *;generalize day % 30000=s at *;generalize count % 60=n at *;generalize later % 100=la at *;generalize more % 20=mo at *;have e6:min (36524:Int) ((s:Int)+(la:Int))=((s+la:Nat):Int):=by omega
 have e7:(n:Int)+(mo:Int)=((n+mo:Nat):Int):=by omega
 refine⟨rfl,by decide,?_⟩;rw[e1]
 conv=>whnf
 rw[w1]
 conv=>whnf
 rw[w2];refine⟨rfl,by decide,?_⟩;rw[e2];refine⟨_,⟨rfl,hr.subA (o:=0) (n:=2)⟩,?_⟩
 conv=>whnf
 rw[w3];refine⟨rfl,by decide,?_⟩;rw[e3];refine⟨Zpj.any,(Zo4 h.c c hx_1.cal (hL.lg h_1.lg) hf u s n hu2 (by omega) (by omega)).mono ?_⟩;rintro _ U'⟨⟨x1,rfl,hx1⟩,hU'⟩-;obtain rfl:=hU'.symm
 repeat refine⟨rfl,?_⟩
 refine⟨_,⟨rfl,hr.subA (o:=0) (n:=2)⟩,?_⟩
 conv=>whnf
 rw[w4];refine⟨rfl,by decide,?_⟩;rw[e4];refine⟨by unfold Zm;omega,?_⟩
 conv=>whnf
 refine Qrh rfl rfl ?_;rw[e6]
 conv=>whnf
 rw[w3];refine⟨rfl,by decide,?_⟩;rw[e3]
 conv=>whnf
 rw[w5];refine⟨rfl,by decide,?_⟩;rw[e5];refine⟨by unfold Zm;omega,?_⟩;rw[e7];refine⟨Zpj.any,(Zo4 h.c c hx_1.cal (hL.lg h_1.lg) hf u (s+la) (n+mo) hu2 (by omega) (by omega)).mono ?_⟩;rintro _ U'⟨⟨x2,rfl,hx2⟩,hU'⟩-;obtain rfl:=hU'.symm;have hle12:x1<=x2:=hx1.mono hx2 (by omega) (by omega);have hx2':=hx2.le;clear e1 e2 e3 e4 e5 w1 w2 w3 w4 w5 e6 e7 hx1 hx2
 repeat refine⟨rfl,?_⟩
 conv=>whnf
 apply Qe<;>intro hc
 .have:(x2:Int)<x1:=by simpa using hc
  omega
 have hk1:=hk.lg h_1.lg
 let xe:Nat->Nat:=λ i=>if i=0 then x1 else x2
 let wz:Nat->Int:=λ i=>if i=0 then 1 else(Qah (Qe9 s (xe (i-1)) p) 5).fatR 0
 clear hc;refine⟨Nat,λ i=>[(6,.slice pa pl pc),(16,.int .i64 s),(17,.int .i64 x1),(19,.int .i64 x2),(21,.int .i64 (wz i)),(22,.int .i64 i)],λ i U'=>U1.le U'/\i<=2,λ i=>2-i,0,by trivial,⟨.refl _,by omega⟩,?_⟩;rintro i f U2⟨h_2,hi⟩;have hin:Zm ((i:Int)+1):=by unfold Zm;omega
 have h12:=h_1.trans h_2
 repeat refine⟨rfl,?_⟩
 conv=>whnf
 apply Qe<;>intro hc
 rotate_left
 .refine⟨Zpi.any,(fin _ h12.lg).go λ _=>?_⟩
  repeat refine⟨rfl,?_⟩
  conv=>whnf
  exact h12.lg
 have hi2:i<2:=by
  have:(i:Int)<2:=by simpa using hc
  omega
 clear hc;obtain⟨e,he⟩:∃e,e=xe i:=⟨_,rfl⟩;have he2:e<=36524:=by rw[he];show(if i=0 then x1 else x2)<=_;split <;> omega
 conv=>whnf
 intro br hbr;refine Zk hbr λ U3 h_3 hbr=>?_;have hbr:Zd U3 br #[.string ⟨#[114,105,103,104,116]⟩]:=hbr
 conv=>whnf
 intro b23 hf23;refine⟨_,.refl _,rfl,Qgn (vs:=[.slice (some ⟨br,0,none⟩) 1 1,.slice none 0 0]) rfl (by simp[Value.single]) ?_⟩;have h23:=h_2.trans h_3;obtain⟨U4,hU4⟩:∃U4:Qa Tk,U4=U3.put b23 (.cells [.slice (some ⟨br,0,none⟩) 1 1,.slice none 0 0].toArray 43):=⟨_,rfl⟩;rw[<- hU4]
 have hM4:U4.M=.obj b23 (.cells [.slice (some ⟨br,0,none⟩) 1 1,.slice none 0 0].toArray 43 (0,0))::U1.M:=by
  rw[hU4];show _::U3.M=_;rw[h23.own]
 have hl24:U3.frz.lg U4.frz:=by rw[hU4];exact(Z0 _ _).frz2
 clear hU4 hf23;have hl14:U1.frz.lg U4.frz:=h23.lg.frz2.trans hl24;have hz1:U.frz.lg U4.frz:=h_1.lg.frz2.trans hl14
 let q:Nat->Bool:=Qe9 s e p
 have qe:∀k,q k=decide (s+p.getD k 0 % 400<=e):=λ _=>rfl
 refine⟨Nat×Value,λ y=>[(6,.slice pa pl pc),(16,.int .i64 s),(17,.int .i64 x1),(19,.int .i64 x2),(21,.int .i64 (wz i)),(22,.int .i64 i),(23,.pointer (some ⟨b23,0,none⟩)),(24,.int .i64 y.1)],
  λ y U'=>U4.frz.lg U'/\y.1<=5/\∃(rows:List (List Value))(A:List Qv),Qav U' rows (((range y.1).filter q).map Qd4)/\Jx 48 4 y.2 rows.flatten A/\U'.M=A++.obj b23 (.cells [.slice (some ⟨br,0,none⟩) 1 1,y.2].toArray 43 (0,0))::U1.M,
  λ y=>5-y.1,(0,.slice none 0 0),by trivial,⟨Qq,by omega,[],[],.nil,.nil,hM4⟩,?_⟩
 rintro⟨k,v⟩f U5⟨hl5,hk5,rows,A,hrow,hacc,hM⟩;simp only at hk5 hrow hacc hM;obtain⟨va,vl,vc,rfl,hvl⟩:=hacc.src;have hink:Zm ((k:Int)+1):=by unfold Zm;omega
 have hrl:rows.length<=k:=by
  rw[hrow.1,length_map];exact Nat.le_trans (length_filter_le _ _) (by simp)
 repeat refine⟨rfl,?_⟩
 conv=>whnf
 apply Qe<;>intro hc
 .have hk:k<5:=by
   have:(k:Int)<5:=by simpa using hc
   omega
  clear hc;have e400:((p.getD k 0:Nat):Int).tmod 400=((p.getD k 0 % 400:Nat):Int):=Zqx _ 400;have hm4:p.getD k 0 % 400<400:=Nat.mod_lt _ (by omega);have es:(s:Int)+((p.getD k 0 % 400:Nat):Int)=((s+p.getD k 0 % 400:Nat):Int):=by omega
  have hp5:∀{w:Qa Tk},U5.frz.lg w->Qx w pa pl 1 p λ(n:Nat)vs=>vs=[.int .u16 (n:Int)]/\n<65536:=λ{w}hw=>hp' (hz1.trans (hl5.frz2.trans hw))
  conv=>whnf
  intro act hfr0
  refine Qvg (mu:=[1017,1019]) (ops:=Q6m Tryz.f3 17) (id:=17) hfr0 [8,11] [[0,1,2,3,4,5,6,7,9,8,10,11]] [12] Qki Qrc Qd (by kernel_rfl) (by kernel_rfl) (by kernel_rfl) (by kernel_rfl) (by kernel_rfl)
   (λ f' ds' U'=>ds'=[]/\Qjc f' [(6,.slice pa pl pc),(16,.int .i64 s),(17,.int .i64 x1),(19,.int .i64 x2),(21,.int .i64 (wz i)),(22,.int .i64 i),(23,.pointer (some ⟨b23,0,none⟩)),(24,.int .i64 k),(98,.int .i64 (s+p.getD k 0 % 400:Nat)),(104,.int .i64 e)]/\U5.le U') ?_ ?_
  .intro l hl;simp only[Qki,mem_cons,not_mem_nil,or_false]at hl;obtain rfl:=hl;refine⟨.int .i64 (p.getD k 0:Nat),λ U' hC=>?_,?_⟩
   .refine⟨Zua.any,(Qo9 pa pl pc p (hp5 hC) k).mono ?_⟩;rintro _ U''⟨rfl,hU'⟩-;obtain rfl:=hU'.symm;exact⟨rfl,_,.refl _,.refl _⟩
   refine⟨rfl,by decide,?_⟩;rw[e400];refine⟨by unfold Zm;omega,?_⟩;rw[es];refine⟨λ v U'=>U5.le U'/\∃bb,v=.slice (some ⟨bb,0,none⟩) 2 2/\Zd U' bb #[.int .i64 x1,.int .i64 x2],λ v y1 y2⟨q1,bb,e,hh⟩hle=>⟨q1.trans hle,bb,e,hh.le hle⟩,λ v U' hh=>Qq.trans hh.1.lg,λ U' hC=>?_,λ v hv=>?_⟩
   .conv=>whnf
    intro bb hbb;exact Zk hbb λ U9 h9 hbb=>⟨_,.refl _,⟨hC.trans h9,bb,rfl,hbb⟩⟩
   obtain⟨_,-,bb,rfl,-⟩:=hv;refine⟨⟨bb,0,none⟩,i,⟨rfl,rfl,hi2⟩,λ v U'=>v=.int .i64 e/\U5.le U',λ v y1 y2⟨q1,q2⟩hle=>⟨q1,q2.trans hle⟩,λ v U' hh=>Qq.trans hh.2.lg,λ U'⟨hC,bb',e',hB⟩=>?_,λ v hv=>?_⟩
   .obtain rfl:bb=bb':=by simpa using e'
    have hrd2:Z7 U' ⟨bb,0,none⟩ [.int .i64 x1,.int .i64 x2]:=hB.reads (λ k v hv=>by simpa using hv)
    have hse:=hrd2 i (.int .i64 e) (by
     rw[he];obtain rfl|rfl:i=0\/i=1:=by omega
     .rfl
     .rfl)
    conv=>whnf
    exact⟨.int .i64 e,by simpa using hse,_,.refl _,rfl,hC⟩
   obtain⟨_,rfl,-⟩:=hv
   conv=>whnf
   rintro U'⟨-,hle⟩;exact⟨rfl,by trivial,hle⟩
  rintro f' ds' U6⟨rfl,hfr,h6⟩;rw[<- hfr.ovr];clear hfr;have hrow:=hrow.lg h6.lg.frz2;have hM6:U6.M=A++.obj b23 (.cells [.slice (some ⟨br,0,none⟩) 1 1,.slice va vl vc].toArray 43 (0,0))::U1.M:=h6.own.trans hM;have hl6:=hl5.trans h6.lg;refine⟨rfl,?_⟩
  conv=>whnf
  intro a' hf';refine⟨by rw[hf'.size,hfr0.size],_,hf'.get,?_⟩;rw[hf'.ds];clear hf' hfr0
  conv=>whnf
  apply Qe<;>intro hc
  rotate_left
  .have hq:q k=false:=by
    rw[qe];have:¬((s+p.getD k 0 % 400:Nat):Int)<=(e:Int):=by simpa using hc
    exact decide_eq_false (by omega)
   refine⟨hink,?_⟩
   conv=>whnf
   exact⟨rfl,(k+1,.slice va vl vc),by trivial,⟨hl6,by show k+1<=5;omega,rows,A,by show Qav U6 _ (((range (k+1)).filter q).map Qd4);rw[Q0x,hq];simpa using hrow,hacc,hM6⟩,by show _-_<_-_;omega⟩
  have hq:q k=true:=by
   rw[qe];have:((s+p.getD k 0 % 400:Nat):Int)<=(e:Int):=by simpa using hc
   exact decide_eq_true (by omega)
  clear hc;have hrows:=Qd5 hrow.row;refine⟨_,(Q7 A hM6).cell (i:=1) rfl,.string (Qd4 k).nm,λ U' hle _=>?_,?_⟩
  .refine⟨Zpk.any,(Zpm ⟨#[111,112,112]⟩ (by decide) k (by omega)).mono ?_⟩;rintro _ U''⟨rfl,hU'⟩-;obtain rfl:=hU'.symm;rw[Q67];exact⟨rfl,_,.refl _,.refl _⟩
  refine⟨λ v U'=>∃bg,v=.slice (some ⟨bg,0,none⟩) 1 1/\Zd U' bg #[.slice none 0 0],λ v y1 y2⟨bg,e,hh⟩hle=>⟨bg,e,hh.le hle⟩,λ U' hle _=>?_,λ v hv=>?_⟩
  .conv=>whnf
   intro bg hbg;exact Zk hbg λ U9 h9 hbg=>⟨_,.refl _,⟨bg,rfl,hbg⟩,h9⟩
  obtain⟨_,-,-,bg,rfl,-⟩:=hv;refine⟨λ v U'=>∃bn,v=.slice (some ⟨bn,0,none⟩) 1 1/\Zd U' bn #[.string (Qd4 k).nm,.int .i64 0,.slice (some ⟨bg,0,none⟩) 1 1,.slice none 0 0],λ v y1 y2⟨bg,e,hh⟩hle=>⟨bg,e,hh.le hle⟩,λ U' hle _=>?_,λ v hv=>?_⟩
  .conv=>whnf
   intro bn hbn;exact Zk hbn λ U9 h9 hbn=>⟨_,.refl _,⟨bn,rfl,hbn⟩,h9⟩
  obtain⟨_,-,-,bn,rfl,-⟩:=hv
  conv=>whnf
  rintro U7 h7⟨⟨-,bg',eg,hbg⟩,bn',en,hbn⟩;obtain rfl:bg=bg':=by simpa using eg
  obtain rfl:bn=bn':=by simpa using en
  have hcase:Q1z U7.frz (Qd4 k) [.string (Qd4 k).nm,.int .i64 0,.slice (some ⟨bg,0,none⟩) 1 1,.slice none 0 0]:=Q60 (U:=U7.frz) (hbg.imI λ _ _ h=>h) k rfl;have hrow:=hrow.lg h7.lg.frz2
  conv=>whnf
  refine Ws (v:=.slice va vl vc) (cs:=rows.flatten) (new:=[.string (Qd4 k).nm,.int .i64 0,.slice (some ⟨bg,0,none⟩) 1 1,.slice none 0 0]) (M₀:=.obj b23 (.cells [.slice (some ⟨br,0,none⟩) 1 1,.slice va vl vc].toArray 43 (0,0))::U1.M) Q6z rfl rfl (by rw[h7.own,hM6];exact hacc _) (.inr ⟨_,rfl,hbn.reads (λ k v hv=>by simpa using hv)⟩) rfl (by simp[Value.single]) (by rw[hrows];simp;omega) λ v' M' ha' _=>?_;obtain⟨A',hMA,hA'⟩:=ha'.split;obtain⟨ta,tl,tc,rfl,-⟩:=hA'.src;refine⟨rfl,Qbk (i:=1) (v:=.slice ta tl tc) A' hMA (by show 1<2;omega) rfl λ U8 hI8 ht8 hM8=>?_⟩;have hl78:U7.frz.lg U8.frz:=⟨λ x o hx=>by show U8.I x=_;rw[hI8];exact hx,⟨[],rfl⟩,by show U8.tok=_;rw[ht8];rfl⟩;have hl8:U4.frz.lg U8.frz:=(hl6.trans h7.lg).frz2.trans hl78;refine⟨hink,rfl,(k+1,.slice ta tl tc),by trivial,⟨⟨hl8.imm,⟨_,(append_nil _).symm⟩,hl8.tok⟩,by show k+1<=5;omega,rows++[[.string (Qd4 k).nm,.int .i64 0,.slice (some ⟨bg,0,none⟩) 1 1,.slice none 0 0]],A',?_,by simpa using hA',hM8⟩,by show _-_<_-_;omega⟩;show Qav U8 _ (((range (k+1)).filter q).map Qd4);rw[Q0x,hq];exact(hrow.lg hl78).snoc (hcase.lg hl78)
 have hge:k=5:=by
  have:¬(k:Int)<5:=by simpa using hc
  omega
 subst hge;clear hc hink hrl;have hrl:=Qd5 hrow.row
 conv=>whnf
 intro act hfr0;refine Zj0 (mu:=[]) (dets:=[]) (l:=Qxa) hfr0 Qd (by kernel_rfl) λ hw=>?_;obtain⟨τ₂,m1,m2,m3,a1,l1,c1,e2,hl1,hs1,hsp1⟩:=hacc.freeze (Qrg hw) (by rw[hM]);cases e2;rw[hrl,hrow.1]at hl1;obtain⟨τ₃,n1,n2,n3,y1,y2,y3,e3,-,hcs,-⟩:=(Jx.ofBlk (e:=43) (n:=2) (b:=b23) (len:=1) (cap:=1) (cs:=[.slice (some ⟨br,0,none⟩) 1 1,.slice va vl vc]) (c:=[Value.slice (some ⟨br,0,none⟩) 1 1,.slice va vl vc].toArray) rfl (Nat.le_refl _) rfl (λ i x hx=>by simpa using hx)).freeze (Qrg (Qzi hw m1)) (by rw[m2];exact Perm.refl (_::U1.M));cases e3
 have hrd:Z7 τ₃.frz ⟨b23,0,none⟩ [.slice (some ⟨br,0,none⟩) 1 1,.slice va vl vc]:=by
  rcases hcs with⟨h,_⟩|⟨ad,e,h⟩
  .cases h
  .cases e;exact h
 have hl53:U5.frz.lg τ₃.frz:=m3.trans n3;have hl13:U1.frz.lg τ₃.frz:=hl14.trans (hl5.frz2.trans hl53);have hle3:U1.le τ₃:=⟨hl13.imm,n2,hl13.tok⟩
 have hcl:(Qah q 5).cs.length=vl:=by
  show(((range 5).filter q).map Qd4).length=vl;omega
 have hvl5:vl<=5:=by
  rw[<- hcl];show(((range 5).filter q).map Qd4).length<=5;rw[length_map];exact Nat.le_trans (length_filter_le _ _) (by simp)
 have hbr3:Zd τ₃.frz br #[.string ⟨#[114,105,103,104,116]⟩]:=hbr.imI λ x o hx=>hl53.imm x o (hl5.imm x o (hl24.imm x o hx))
 have hbook:Zt τ₃.frz ⟨some ⟨br,0,none⟩,1,1,va,vl,vc⟩ (Qah q 5):=by
  refine⟨⟨rfl,λ i x hx=>?_⟩,?_,by show 1<2^60;decide,by show vl<_;omega,λ x hx=>?_,λ x hx=>?_⟩
  .obtain rfl:i=0:=by
    have:=(List.getElem?_eq_some_iff.1 hx).1;simp[Qah]at this;omega
   obtain rfl:x = "right".toUTF8:=by
    have:(["right".toUTF8]:List ByteArray)[0]?=some x:=hx;simpa using this.symm
   have hrr:Z7 τ₃.frz ⟨br,0,none⟩ [.string ⟨#[114,105,103,104,116]⟩]:=hbr3.reads (λ k v hv=>by simpa using hv);exact⟨⟨br,0,none⟩,[.string ⟨#[114,105,103,104,116]⟩],rfl,rfl,by rw[Qq6],rfl,by simpa[Addr.add]using hrr⟩
  .have:=(hrow.lg hl53).rows (a:=va) (by
    rcases hs1 with⟨h1,h2⟩|⟨ad,h1,h2⟩
    .exact .inl ⟨h1,h2⟩
    .exact .inr ⟨ad,h1,h2.lg n3⟩) hsp1
   rw[show(((range 5).filter q).map Qd4).length=vl from hcl]at this;exact this
  .obtain rfl:=mem_singleton.1 hx;rw[Qq6];decide
  .obtain⟨j,-,rfl⟩:=mem_map.1 hx;exact Zev j
 have hk3:Chk τ₃:=hk1.lg hle3.lg;refine⟨τ₃,m1.trans n1,_,⟨rfl,hrd.lg Qq⟩,Zme.any,(Zo6 ⟨some ⟨br,0,none⟩,1,1,va,vl,vc⟩ (Qah q 5) hbook hk3 (Qgz q) 0 (by show 0<1;omega)).go λ _=>?_⟩
 conv=>whnf
 intro a' hf';refine⟨by rw[hf'.size,hfr0.size],_,hf'.get,?_⟩;rw[hf'.ds];clear hf' hfr0;refine⟨_,⟨rfl,hrd.lg Qq⟩,Q29.any,(Qmx ⟨some ⟨br,0,none⟩,1,1,va,vl,vc⟩ (Qah q 5) hbook hk3 0).mono ?_⟩;rintro _ τ₄⟨⟨_,rfl,wa,wc,rfl,-⟩,h_4⟩-
 have hask:(Qah q 5).askF 0=0:=by
  unfold Bk.askF;rw[if_pos (Qgz q)];exact if_pos (show W1 0 0 (((1:Nat):Int)-1)=true by decide)
 have hwd:((Qah q 5).wdF 0).length=vl:=by
  unfold Bk.wdF;rw[if_pos hask];exact(Qdz q).wd.trans hcl
 rw[hask,hwd];have hle4:=hle3.trans h_4;have hrd4:Z7 τ₄ ⟨b23,0,none⟩ [.slice (some ⟨br,0,none⟩) 1 1,.slice va vl vc]:=(hrd.lg Qq).lg h_4.lg
 have hwz1:wz (i+1)=(Qah q 5).fatR 0:=by
  show(if i+1=0 then 1 else(Qah (Qe9 s (xe (i+1-1)) p) 5).fatR 0)=_;rw[if_neg (by omega),Nat.add_sub_cancel,<- he]
 have hwz:wz i=1\/(wz i=2/\0<vl):=by
  obtain rfl|rfl:i=0\/i=1:=by omega
  .exact .inl rfl
  .show(Qah (Qe9 s x1 p) 5).fatR 0=1\/((Qah (Qe9 s x1 p) 5).fatR 0=2/\0<vl);rcases Nat.eq_zero_or_pos (Qah (Qe9 s x1 p) 5).cs.length with z|z
   .exact .inl ((Qdz _).one z)
   .refine .inr ⟨(Qdz _).two z,?_⟩;have:=Q62 (q:=q) (λ j hj=>Q1y (show x1<=e by rw[he];exact hle12) j hj) z;omega
 have hfat:(vl=0/\(Qah q 5).fatR 0=1)\/(0<vl/\(Qah q 5).fatR 0=2):=by
  rcases Nat.eq_zero_or_pos vl with z|z
  .exact .inl ⟨z,(Qdz q).one (by omega)⟩
  .exact .inr ⟨z,(Qdz q).two (by omega)⟩
 rw[<- hwz1]at hfat ⊢;generalize hw2:wz (i+1)=w2 at hfat ⊢;generalize wz i=w1 at hwz ⊢;have hfin:∀{w:Qa Tk},w=τ₄->U1.le w:=λ e=>e▸hle4;rcases hfat with⟨rfl,rfl⟩|⟨hpos,rfl⟩
 .obtain rfl:w1=1:=by rcases hwz with h|⟨-,h⟩;{ exact h };{ omega }
  repeat refine⟨rfl,?_⟩
  refine⟨_,hrd4.cell (i:=1) rfl,?_⟩
  repeat refine⟨rfl,?_⟩
  refine⟨_,hrd4.cell (i:=1) rfl,?_⟩
  repeat refine⟨rfl,?_⟩
  refine⟨_,hrd4.cell (i:=1) rfl,?_⟩
  repeat refine⟨rfl,?_⟩
  refine⟨hin,?_⟩
  conv=>whnf
  exact⟨rfl,i+1,⟨rfl,rfl,rfl,rfl,by show Value.int .i64 1=.int .i64 (wz (i+1));rw[hw2],rfl,trivial⟩,⟨hle4,by omega⟩,by show _-_<_-_;omega⟩
 .obtain⟨j,rfl⟩:∃j,vl=j+1:=⟨vl-1,by omega⟩;have hd:decide (((j+1:Nat):Int) > 0)=true:=decide_eq_true (by omega);have hne:(((j+1:Nat):Int)!=((j+1:Nat):Int))=false:=by simp
  rcases hwz with rfl|⟨rfl,-⟩
  all_goals
   repeat refine⟨rfl,?_⟩
   refine⟨_,hrd4.cell (i:=1) rfl,?_⟩
   repeat refine⟨rfl,?_⟩
   refine⟨_,hrd4.cell (i:=1) rfl,?_⟩
   repeat refine⟨rfl,?_⟩
   conv=>whnf
   rw[hd]
   repeat refine⟨rfl,?_⟩
   refine⟨_,hrd4.cell (i:=1) rfl,?_⟩
   repeat refine⟨rfl,?_⟩
   conv=>whnf
   rw[hne]
   repeat refine⟨rfl,?_⟩
   refine⟨hin,?_⟩
   conv=>whnf
   exact⟨rfl,i+1,⟨rfl,rfl,rfl,rfl,by show Value.int .i64 2=.int .i64 (wz (i+1));rw[hw2],rfl,trivial⟩,⟨hle4,by omega⟩,by show _-_<_-_;omega⟩
end Go.Proofs
