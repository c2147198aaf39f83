/- Lemmas. No conditions. -/
import Derived.Test.YtnjljnhoaafkiaaGreatDoorC05
set_option linter.all false
open List
namespace Go.TM
def Zoc:List Hv->List ByteArray->Int
 |[],_=>0
 |it::r,p=>if Zg it.name then(if inS it.name p then 5 else if QP it.cls 1 45 then Zoc r (p++[it.name])else 1)else 4
def edF(l:List Hv):Int:=if 8<l.length then 2 else Zoc l []
def Zqh:List (List Hv)->Int
 |[]=>0
 |l::r=>if edF l=0 then Zqh r else edF l
def Zq3(e:Int):∀(l:List Hv)(s:List (Int×ByteArray))(p:List ByteArray),(∀n,(e,n)∈s↔n∈p)->(Zcf e l s).1=Zoc l p/\∀q∈(Zcf e l s).2,q∈s\/q.1=e
 |[],s,p,_=>⟨rfl,λ q b=>.inl b⟩
 |it::r,s,p,h=>by
  have f:inS (e,it.name) s=inS it.name p:=by unfold inS;rw[Bool.eq_iff_iff];simp[h]
  unfold Zcf Zoc Zm7;rw[f];cases h1:Zg it.name with
  |false=>exact⟨S1,λ q b=>.inl (by simpa using b)⟩
  |true=>
   cases h2:inS it.name p with
   |true=>exact⟨S1,λ q b=>.inl (by simpa using b)⟩
   |false=>
    cases B:QP it.cls 1 45 with
    |false=>exact⟨S1,λ q b=>.inl (by simpa using b)⟩
    |true=>
     have w:=Zq3 e r (s++[(e,it.name)]) (p++[it.name]) (λ n=>by simp[h]);simp only[if_true,Bool.false_eq_true,if_false];refine⟨w.1,λ q b=>?_⟩;rcases w.2 q b with b|b
     .rcases mem_append.1 b with b|b
      .exact .inl b
      .simp at b;exact .inr (by rw[b])
     .exact .inr b
def Zq2:∀(B:List (List Hv))(e:Int)(s:List (Int×ByteArray)),(∀q∈s,q.1<e)->Zkm e B s=Zqh B
 |[],_,_,_=>rfl
 |l::r,e,s,h=>by
  unfold Zkm Zqh edF;by_cases w:8<l.length
  .simp[w]
  .have k:=Zq3 e l s [] (λ n=>by simp;intro E;have:=h _ E;simp at this);simp only[w,if_false,k.1];by_cases f:Zoc l []=0
   .simp only[f,if_true];refine Zq2 r (e+1) _ λ q b=>?_;rcases k.2 q b with b|b
    .have:=h q b;omega
    .omega
   .simp[f]
def WK.chkItems_eq(t:WK):t.chkItems=if QP t.eds.length 1 3 then Zqh t.eds else 2:=by
 unfold WK.chkItems;rw[Zq2 t.eds 0 [] (λ q h=>by cases h)]
def Zqj(c:UInt8):Bool:=QP (c.toNat:Int) 97 122
def Zsr(c:UInt8):Bool:=QP (c.toNat:Int) 48 57
def Zsn(c:UInt8):GD c=(!Zqj c&&!Zsr c):=by
 unfold GD Zqj Zsr QP;rw[Bool.eq_iff_iff];simp
def Zo5:List UInt8->Nat->Bool
 |[],_=>true
 |c::r,i=>(Zqj c|| (Zsr c&&!decide (i=0)))&&Zo5 r (i+1)
def Zsx:∀(l:List UInt8)(i:Nat),0<i->Zo5 l i=!(l.any GD)
 |[],_,_=>rfl
 |c::r,i,h=>by
  rw[Zo5,Zsx r (i+1) O1,any_cons,Zsn,Bool.not_or,Bool.not_and,Bool.not_not,Bool.not_not];have:decide (i=0)=false:=decide_eq_false O1;rw[this];cases Zqj c <;> cases Zsr c <;> rfl
def Ztt(s:ByteArray):Zg s=(QP s.size 1 10&&Zo5 s.data.toList 0):=by
 unfold Zg;have b:s.size=s.data.toList.length:=(Array.length_toList (xs:=s.data)).symm;cases h:s.data.toList with
 |nil=>
  have:QP (s.size:Int) 1 10=false:=by unfold QP;rw[b,h];rfl
  rw[this];rfl
 |cons c r=>
  congr 1;rw[Zo5,Zsx r 1 O1,any_cons,Zsn,Bool.not_or,Bool.not_and,Bool.not_not,Bool.not_not]
  have f:(!(decide ((c.toNat:Int)<97))&&!(decide ((c.toNat:Int) > 122)))=Zqj c:=by
   unfold Zqj QP;rw[Bool.eq_iff_iff];simp only[Bool.and_eq_true,Bool.not_eq_true',decide_eq_false_iff_not,decide_eq_true_eq];omega
  simp only[f];cases Zqj c <;> simp
def Zng:∀(a:List Int),Qn8 a a=0
 |[]=>rfl
 |a::l=>by rw[Qn8,if_neg O1,if_neg O1];exact Zng l
def Zpt:∀{a b c:List Int},Qn8 a b<0->Qn8 b c<0->Qn8 a c<0
 |[],[],_,h,_=>by simp[Qn8]at h
 |[],_::_,[],_,h=>by simp[Qn8]at h
 |[],_::_,_::_,_,_=>by simp[Qn8]
 |_::_,[],_,h,_=>by simp[Qn8]at h
 |_::_,_::_,[],_,h=>by simp[Qn8]at h
 |a::l,b::r,c::q,h,k=>by
  rw[Qn8]at h k ⊢;split at h
  .split at k
   .rw[if_pos O1];decide
   .split at k
    .omega
    .rw[if_pos O1];decide
  .split at h
   .omega
   .split at k
    .rw[if_pos O1];decide
    .split at k
     .omega
     .rw[if_neg O1,if_neg O1];exact Zpt h k
def Zot(s:Nat):∀(l:List Int)(i:Nat),Qdb s (i+1) l=Qdb (s / 2) i l
 |[],_=>rfl
 |a::l,i=>by
  have:s.testBit (i+1)=(s / 2).testBit i:=Nat.testBit_succ ..;simp only[Qdb,Zot s l (i+1),this]
def Zp3(s:Nat):∀(l:List Int)(i:Nat),(Qdb s i l).Sublist l
 |[],_=>Sublist.slnil
 |a::l,i=>by
  simp only[Qdb];split
  .exact(Zp3 s l _).cons_cons a
  .exact(Zp3 s l _).cons a
def Zof:∀{l a:List Int},l.Sublist a->∃s,s<2^a.length/\Qdb s 0 a=l
 |_,_,.slnil=>⟨0,S1,rfl⟩
 |_,_,.cons x h=>by
  obtain⟨s,h1,h2⟩:=Zof h;refine⟨2*s,by rw[length_cons,Nat.pow_succ];omega,?_⟩;have e:(2*s).testBit 0=false:=S1
  simp only[Qdb,e,Bool.false_eq_true,if_false];rw[Zot,show 2*s / 2=s by omega];exact h2
 |_,_,.cons_cons x h=>by
  obtain⟨s,h1,h2⟩:=Zof h;refine⟨2*s+1,by rw[length_cons,Nat.pow_succ];omega,?_⟩;have e:(2*s+1).testBit 0=true:=S1
  simp only[Qdb,e,if_true];rw[Zot,show(2*s+1) / 2=s by omega,h2]
def WK.mem_reach{t:WK}{tk:Qvl}{x y:List Int}{p:Int×Int}:p∈t.reach tk x y↔p.1∈tk.a/\p.2∈tk.b/\p.1∉x/\p.2∉y/\tk.lv<=t.lev tk.ed p.1 p.2:=by
 have h:∀one two,t.okP tk x y one two=true↔one∉x/\two∉y/\tk.lv<=t.lev tk.ed one two:=λ one two=>by
  unfold WK.okP;rw[Bool.not_eq_true',Bool.or_eq_false_iff,Bool.or_eq_false_iff,decide_eq_false_iff_not];constructor
  .rintro⟨⟨h1,h2⟩,f⟩;exact⟨by simpa using h1,by simpa using h2,O1⟩
  .rintro⟨h1,h2,f⟩;exact⟨⟨by simpa using h1,by simpa using h2⟩,O1⟩
 unfold WK.reach WK.reachRow;rw[mem_flatMap];constructor
 .rintro⟨one,h1,h2⟩;obtain⟨two,f,rfl⟩:=mem_map.1 h2;obtain⟨f,w⟩:=mem_filter.1 f;exact⟨h1,f,(h _ _).1 w⟩
 .rintro⟨h1,h2,f⟩;exact⟨p.1,h1,mem_map.2 ⟨p.2,mem_filter.2 ⟨h2,(h _ _).2 f⟩,rfl⟩⟩
def WK.prs(t:WK)(tk:Qvl):List (Int×Int):=t.reach tk [] []
def WK.mem_prs{t:WK}{tk:Qvl}{p:Int×Int}:p∈t.prs tk↔p.1∈tk.a/\p.2∈tk.b/\tk.lv<=t.lev tk.ed p.1 p.2:=by
 unfold WK.prs;rw[WK.mem_reach];simp
def WK.mem_leftF{t:WK}{tk:Qvl}{x:List Int}{y:Int}:y∈t.leftF tk x↔∃o,(o,y)∈t.prs tk/\o∉x:=by
 unfold WK.leftF;rw[mem_filter,any_eq_true];constructor
 .rintro⟨h1,p,h2,f⟩;rw[WK.mem_reach]at h2;have f:p.2=y:=by simpa using f
  subst f;exact⟨p.1,WK.mem_prs.2 ⟨h2.1,h2.2.1,h2.2.2.2.2⟩,h2.2.2.1⟩
 .rintro⟨o,h1,h2⟩;have b:=WK.mem_prs.1 h1;exact⟨b.2.1,(o,y),WK.mem_reach.2 ⟨b.1,b.2.1,h2,S1,b.2.2⟩,S1⟩
def Asc.nodup{l:List Int}(h:Asc l):l.Nodup:=Pairwise.imp (λ h=>O1) h
def WK.asc_leftF{t:WK}{tk:Qvl}(hb:Asc tk.b)(x:List Int):Asc (t.leftF tk x):=hb.filter _
def WK.left_cover(t:WK)(tk:Qvl)(x:List Int):Zh0 x (t.leftF tk x) (t.prs tk):=λ p hp=>by
 by_cases h:p.1∈x
 .exact .inl h
 .exact .inr (WK.mem_leftF.2 ⟨p.1,hp,h⟩)
def WK.left_least{t:WK}{tk:Qvl}{x v:List Int}(h:Zh0 x v (t.prs tk)):∀y,y∈t.leftF tk x->y∈v:=λ y hy=>by
 obtain⟨o,h1,h2⟩:=WK.mem_leftF.1 hy;rcases h _ h1 with h|h
 .exact absurd h h2
 .exact h
structure WK.Best(t:WK)(tk:Qvl)(l r:List Int):Prop where
 sub:l.Sublist tk.a
 left:r=t.leftF tk l
 len:l.length+r.length=t.mostT tk
 least:∀l':List Int,l'.Sublist tk.a->l'.length+(t.leftF tk l').length=t.mostT tk->¬Qn8 l' l<0
section
variable{t:WK}{tk:Qvl}(ha:Asc tk.a)(hb:Asc tk.b)
include ha
def WK.prs_a:tk.a.Nodup/\∀p,p∈t.prs tk->p.1∈tk.a:=⟨ha.nodup,λ _ hp=>(WK.mem_prs.1 hp).1⟩
def WK.most_cover{x y:List Int}(h:Zh0 x y (t.prs tk)):t.mostT tk<=x.length+y.length:=Znp (WK.prs_a (t:=t) ha).1 (WK.prs_a (t:=t) ha).2 h
def WK.most_left(x:List Int):t.mostT tk<=x.length+(t.leftF tk x).length:=WK.most_cover ha (t.left_cover tk x)
include hb
def WK.some_best:∃l:List Int,l.Sublist tk.a/\l.length+(t.leftF tk l).length=t.mostT tk:=by
 obtain⟨-,X,Y,h1,h2,w,f⟩:=Q34 (WK.prs_a (t:=t) ha).1 (WK.prs_a (t:=t) ha).2;have b:(tk.a.filter λ n=>X.contains n).Sublist tk.a:=filter_sublist ..;refine⟨_,b,Nat.le_antisymm ?_ (WK.most_left ha _)⟩;have hl:(tk.a.filter λ n=>X.contains n).length<=X.length:=Qvv (ha.filter _).nodup λ x hx=>by simpa using(mem_filter.1 hx).2
 have B:(t.leftF tk (tk.a.filter λ n=>X.contains n)).length<=Y.length:=Qvv (WK.asc_leftF hb _).nodup <| WK.left_least λ p hp=>by
  rcases w p hp with h|h
  .exact .inl (mem_filter.2 ⟨(WK.mem_prs.1 hp).1,by simpa using h⟩)
  .exact .inr h
 show _<=t.mostT tk;have f:X.length+Y.length=t.mostT tk:=f;omega
def WK.agr_best:t.Best tk (t.agr tk).1 (t.agr tk).2:=by
 obtain⟨S,K,P⟩:=WK.some_best (t:=t) ha hb;obtain⟨Q,L,rfl⟩:=Zof K
 have key:∀k,let st:=(range k).foldl (Qje (t.mostT tk) (t.leftF tk) tk.a) ([],[]);
   (st=([],[])/\∀s,s<k->(Qdb s 0 tk.a).length+(t.leftF tk (Qdb s 0 tk.a)).length≠t.mostT tk) \/
   ((∃s,s<k/\st=(Qdb s 0 tk.a,t.leftF tk (Qdb s 0 tk.a))/\(Qdb s 0 tk.a).length+(t.leftF tk (Qdb s 0 tk.a)).length=t.mostT tk) /\
    ∀s,s<k->(Qdb s 0 tk.a).length+(t.leftF tk (Qdb s 0 tk.a)).length=t.mostT tk->¬Qn8 (Qdb s 0 tk.a) st.1<0):=by
  intro k
  induction k with
  |zero=>exact .inl ⟨rfl,λ s h=>absurd h (Nat.not_lt_zero _)⟩
  |succ k N=>
   simp only at N ⊢;rw[range_succ,foldl_append,foldl_cons,foldl_nil];generalize(range k).foldl (Qje (t.mostT tk) (t.leftF tk) tk.a) ([],[])=st at N ⊢;unfold Qje;by_cases hm:(Qdb k 0 tk.a).length+(t.leftF tk (Qdb k 0 tk.a)).length=t.mostT tk
   .rcases N with⟨rfl,F⟩|⟨⟨s,M,rfl,f⟩,b⟩
    .rw[if_pos ⟨hm,.inr (.inl ⟨rfl,rfl⟩)⟩];refine .inr ⟨⟨k,O1,rfl,hm⟩,λ s M B=>?_⟩;by_cases e:s=k
     .subst e;simp only;rw[Zng];decide
     .exact absurd B (F s O1)
    .by_cases hc:Qn8 (Qdb k 0 tk.a) (Qdb s 0 tk.a)<0
     .rw[if_pos ⟨hm,.inr (.inr hc)⟩];refine .inr ⟨⟨k,O1,rfl,hm⟩,λ w G B H=>?_⟩;by_cases e:w=k
      .subst e;simp only at H;rw[Zng]at H;exact absurd H D1
      .exact b w O1 B (Zpt H hc)
     .by_cases hn:(k=0\/(Qdb s 0 tk.a=[]/\t.leftF tk (Qdb s 0 tk.a)=[])\/Qn8 (Qdb k 0 tk.a) (Qdb s 0 tk.a)<0)
      .rw[if_pos ⟨hm,hn⟩]
       have I:Qdb k 0 tk.a=Qdb s 0 tk.a:=by
        rcases hn with rfl|⟨h1,h2⟩|h
        .omega
        .rw[h2,h1]at f;rw[<- f]at hm;rw[h1];exact eq_nil_of_length_eq_zero (by simp at hm;simp[hm.1])
        .exact absurd h hc
       refine .inr ⟨⟨k,O1,rfl,hm⟩,λ w G B=>?_⟩;simp only;rw[I];by_cases e:w=k
       .rw[e,I,Zng];decide
       .exact b w O1 B
      .rw[if_neg λ h=>hn h.2];refine .inr ⟨⟨s,O1,rfl,f⟩,λ w G B=>?_⟩;by_cases e:w=k
       .rw[e];exact hc
       .exact b w O1 B
   .rw[if_neg λ h=>hm h.1];rcases N with⟨rfl,F⟩|⟨⟨s,M,B,f⟩,b⟩
    .refine .inl ⟨rfl,λ s M=>?_⟩;by_cases e:s=k
     .rw[e];exact hm
     .exact F s O1
    .refine .inr ⟨⟨s,O1,B,f⟩,λ w G E=>?_⟩;by_cases e:w=k
     .rw[e]at E;exact absurd E hm
     .exact b w O1 E
 have:=key (2^tk.a.length);simp only at this;unfold WK.agr Zt4;rcases this with⟨_,F⟩|⟨⟨s,M,B,f⟩,b⟩
 .exact absurd P (F Q L)
 .rw[B]at b ⊢;refine⟨Zp3 ..,rfl,f,λ l' hl' E=>?_⟩;obtain⟨w,G,rfl⟩:=Zof hl';exact b w G E
end
def Qjp:Nat->List (Int×Int)->Int->List Int->Option (List (Int×Int))
 |0,_,_,_=>some []
 |_+1,[],_,_=>none
 |n+1,p::r,one,b=>if p.1<=one\/p.2∈b then Qjp (n+1) r one b else match Qjp n r p.1 (b++[p.2])with
  |some L=>some (p::L)
  |none=>Qjp (n+1) r one b
def Zrr(n:Nat)(one:Int)(b:List Int):Qjp (n+1) [] one b=none:=by rw[Qjp]
def Zno(n:Nat)(p:Int×Int)(r:List (Int×Int))(one:Int)(b:List Int):Qjp (n+1) (p::r) one b=if p.1<=one\/p.2∈b then Qjp (n+1) r one b else match Qjp n r p.1 (b++[p.2])with
  |some L=>some (p::L)
  |none=>Qjp (n+1) r one b:=by rw[Qjp]
def Qzp(one:Int)(b:List Int)(q:Int×Int):Bool:=decide (one<q.1)&&!decide (q.2∈b)
def Ztn{p:Int×Int}{r:List (Int×Int)}{one:Int}{b:List Int}(h:∀q∈r,p.1<=q.1)(hp:one<p.1):r.filter (Qzp p.1 (b++[p.2]))=Q3y p (r.filter (Qzp one b)):=by
 unfold Q3y;rw[filter_filter];refine filter_congr λ q f=>?_;have:=h q f;unfold Qzp;rw[Bool.eq_iff_iff];simp only[Bool.and_eq_true,decide_eq_true_eq,Bool.not_eq_true',decide_eq_false_iff_not,mem_append,mem_singleton,not_or,Bool.or_eq_false_iff,beq_eq_false_iff_ne,ne_eq];constructor
 .rintro⟨h1,h2,h3⟩;exact⟨⟨O1,h3⟩,O1,h2⟩
 .rintro⟨⟨h1,h2⟩,_,h3⟩;exact⟨O1,h3,h2⟩
def Zud(la:List Int)(b:la.Nodup):Qz2 la []=0:=by
 have:=Znp (X:=[]) (Y:=[]) b (ps:=[]) (λ p h=>by cases h) (λ p h=>by cases h);simpa using this
def Ztr{la:List Int}(b:la.Nodup){ps qs:List (Int×Int)}(f:∀p,p∈qs->p.1∈la)(h:∀p,p∈ps->p∈qs):Qz2 la ps<=Qz2 la qs:=by
 obtain⟨⟨L,hL,e⟩,_⟩:=Q34 b λ p hp=>f p (h p hp);rw[<- e];exact Qz1 b f ⟨λ p hp=>h p (hL.1 p hp),hL.2⟩
def Zln{p q:Int×Int}{r:List (Int×Int)}:q∈Q3y p r↔q∈r/\q.1≠p.1/\q.2≠p.2:=by
 unfold Q3y;rw[mem_filter];simp
def Zod{α β:Type}{f:α->β}:∀{L:List α},(L.map f).Nodup->L.Nodup
 |[],_=>Pairwise.nil
 |a::L,h=>by
  rw[map_cons,nodup_cons]at h;rw[nodup_cons];exact⟨λ hm=>h.1 (mem_map.2 ⟨a,hm,rfl⟩),Zod h.2⟩
def Zts{la:List Int}(E:la.Nodup){p:Int×Int}{r:List (Int×Int)}(hp:∀q,q∈p::r->q.1∈la)(n:Nat):n+1<=Qz2 la (p::r)↔n<=Qz2 la (Q3y p r)\/n+1<=Qz2 la r:=by
 have Q:∀q,q∈r->q.1∈la:=λ q b=>hp q (mem_cons_of_mem _ b);have F:∀q,q∈Q3y p r->q.1∈la:=λ q b=>Q q (Zln.1 b).1;constructor
 .intro h;obtain⟨⟨L,hL,e⟩,_⟩:=Q34 E hp;rw[<- e]at h;by_cases G:p∈L
  .left;have P:L.Nodup:=Zod hL.2.1
   have hm:Zna (L.erase p) (Q3y p r):=by
    refine⟨λ q b=>?_,(hL.2.1.sublist ((erase_sublist ..).map _)),(hL.2.2.sublist ((erase_sublist ..).map _))⟩;have w:q≠p/\q∈L:=(Nodup.mem_erase_iff P).1 b;have K:q.1≠p.1:=λ B=>w.1 (inj_of_nodup_map hL.2.1 w.2 G B);have M:q.2≠p.2:=λ B=>w.1 (inj_of_nodup_map hL.2.2 w.2 G B);rcases mem_cons.1 (hL.1 q w.2)with h|h
    .exact absurd h w.1
    .exact Zln.2 ⟨h,K,M⟩
   have:=Qz1 E F hm;rw[length_erase_of_mem G]at this;omega
  .right
   have hm:Zna L r:=⟨λ q b=>by
    rcases mem_cons.1 (hL.1 q b)with h|h
    .rw[h]at b;exact absurd b G
    .exact h,hL.2⟩
   exact Nat.le_trans h (Qz1 E Q hm)
 .rintro(h|h)
  .obtain⟨⟨L,hL,e⟩,_⟩:=Q34 E F
   have hm:Zna (p::L) (p::r):=by
    refine⟨λ q b=>?_,?_,?_⟩
    .rcases mem_cons.1 b with rfl|b
     .exact mem_cons_self ..
     .exact mem_cons_of_mem _ (Zln.1 (hL.1 q b)).1
    .rw[map_cons,nodup_cons];refine⟨λ N=>?_,hL.2.1⟩;obtain⟨q,b,B⟩:=mem_map.1 N;exact(Zln.1 (hL.1 q b)).2.1 B
    .rw[map_cons,nodup_cons];refine⟨λ N=>?_,hL.2.2⟩;obtain⟨q,b,B⟩:=mem_map.1 N;exact(Zln.1 (hL.1 q b)).2.2 B
   have:=Qz1 E hp hm;simp only[length_cons]at this;omega
  .exact Nat.le_trans h (Ztr E hp λ q b=>mem_cons_of_mem _ b)
where
 inj_of_nodup_map {β:Type} {f:Int×Int->β}:∀{L:List (Int×Int)},(L.map f).Nodup->∀{p q:Int×Int},p∈L->q∈L->f p=f q->p=q
  |[],_,_,_,h,_,_=>by cases h
  |a::L,E,p,q,hp,b,B=>by
   rw[map_cons,nodup_cons]at E;rcases mem_cons.1 hp with rfl|I
   .rcases mem_cons.1 b with rfl|H
    .rfl
    .exact(E.1 (mem_map.2 ⟨q,H,B.symm⟩)).elim
   .rcases mem_cons.1 b with rfl|H
    .exact(E.1 (mem_map.2 ⟨p,I,B⟩)).elim
    .exact inj_of_nodup_map E.2 I H B
def Zny{la:List Int}(K:la.Nodup):∀(n:Nat)(ps:List (Int×Int))(one:Int)(b:List Int),ps.Pairwise (λ p q=>p.1<=q.1)->(∀p,p∈ps->p.1∈la) ->
  Qjp n ps one b=(if n<=Qz2 la (ps.filter (Qzp one b))then Qlh la n (ps.filter (Qzp one b))else none)/\(n<=Qz2 la (ps.filter (Qzp one b))->(Qlh la n (ps.filter (Qzp one b))).isSome=true)
 |0,ps,one,b,_,_=>by
  rw[if_pos (Nat.zero_le _)];have P:Qjp 0 ps one b=some []:=by rw[Qjp]
  rw[P];exact⟨by rw[Qlh],λ _=>by rw[Qlh];rfl⟩
 |n+1,[],one,b,_,_=>by
  rw[filter_nil,Zud la K,if_neg O1];exact⟨Zrr ..,λ h=>absurd h O1⟩
 |n+1,p::r,one,b,S,hp=>by
  have B:=pairwise_cons.1 S;have N:∀q,q∈r->q.1∈la:=λ q E=>hp q (mem_cons_of_mem _ E);obtain⟨F,G⟩:=Zny K (n+1) r one b B.2 N;by_cases hf:Qzp one b p=true
  .have hf':one<p.1/\p.2∉b:=by unfold Qzp at hf;simpa using hf
   obtain⟨H,I⟩:=Zny K n r p.1 (b++[p.2]) B.2 N;rw[Ztn B.1 hf'.1]at H I;rw[filter_cons,if_pos hf]
   have Q:∀q,q∈p::r.filter (Qzp one b)->q.1∈la:=λ q E=>by
    rcases mem_cons.1 E with rfl|E
    .exact hp _ (mem_cons_self ..)
    .exact N q (mem_filter.1 E).1
   have w:=Zts K Q n;rw[Zno,if_neg (λ h=>h.elim (λ h=>O1) hf'.2),H];by_cases h1:n<=Qz2 la (Q3y p (r.filter (Qzp one b)))
   .obtain⟨L,hL⟩:=Option.isSome_iff_exists.1 (I h1);rw[if_pos h1,hL,if_pos (w.2 (.inl h1)),Qlh,Zp0,if_pos h1];simp only[hL,Option.map_some,Option.isSome_some,implies_true,and_self]
   .rw[if_neg h1];simp only;have f:n+1<=Qz2 la (p::r.filter (Qzp one b))↔n+1<=Qz2 la (r.filter (Qzp one b)):=w.trans ⟨λ h=>h.resolve_left h1,.inr⟩
    have M:Qlh la (n+1) (p::r.filter (Qzp one b))=Qlh la (n+1) (r.filter (Qzp one b)):=by
     rw[Qlh,Zp0,if_neg h1,Qlh]
    rw[F,M];refine⟨?_,λ h=>G (f.1 h)⟩;by_cases h2:n+1<=Qz2 la (r.filter (Qzp one b))
    .rw[if_pos h2,if_pos (f.2 h2)]
    .rw[if_neg h2,if_neg λ h=>h2 (f.1 h)]
  .have hf':p.1<=one\/p.2∈b:=by
    by_cases h:p.1<=one
    .exact .inl h
    .by_cases h2:p.2∈b
     .exact .inr h2
     .exact(hf (by unfold Qzp;simp[h2];omega)).elim
   rw[filter_cons,if_neg hf,Zno,if_pos hf'];exact⟨F,G⟩
variable{b:Bk}
end Go.TM




