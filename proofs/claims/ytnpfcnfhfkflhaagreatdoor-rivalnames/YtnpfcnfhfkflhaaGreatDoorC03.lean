/- Lemmas. No conditions. -/
import Derived.Test.YtnpfcnfhfkflhaaGreatDoorC00
set_option linter.all false
set_option maxRecDepth 100000
open List
namespace Go.TM
variable{T:Type}{P:Program}{S:Sys P T}{U U':Qa T}
def Qaq{m:Nat}:∀{L:List (List Value)},(∀r∈L,r.length=m)->L.flatten.length=L.length*m
 |[],_=>S1
 |r::L,h=>by
  rw[flatten_cons,length_append,h r (mem_cons_self ..),Qaq λ r a=>h r (mem_cons_of_mem _ a),length_cons,Nat.add_mul];omega
def Qek{m:Nat}:∀{L:List (List Value)},(∀r∈L,r.length=m)->∀{j k:Nat}{r:List Value},L[j]?=some r->k<m->L.flatten[j*m+k]?=r[k]?
 |[],_,j,k,r,a,_=>by simp at a
 |r::L,h,0,k,e,a,d=>by
  obtain rfl:r=e:=by simpa using a
  rw[flatten_cons,Nat.zero_mul,Nat.zero_add,getElem?_append_left (by rw[h r (mem_cons_self ..)];exact d)]
 |r::L,h,j+1,k,e,a,d=>by
  have b:=h r (mem_cons_self ..);rw[flatten_cons,getElem?_append_right (by rw[b,Nat.add_mul];omega),b,Nat.add_mul,show j*m+1*m+k-m=j*m+k by omega];exact Qek (λ r b=>h r (mem_cons_of_mem _ b)) (by simpa using a) d
def Qqa{m:Nat}(e:0<m){L:List (List Value)}(h:∀r∈L,r.length=m){i:Nat}{v:Value}(d:L.flatten[i]?=some v):∃r,L[i / m]?=some r/\r[i % m]?=some v:=by
 obtain⟨a,-⟩:=List.getElem?_eq_some_iff.1 d;rw[Qaq h]at a;have b:i / m<L.length:=Nat.div_lt_of_lt_mul (by rw[Nat.mul_comm];exact a);refine⟨L[i / m],getElem?_eq_getElem b,?_⟩;rw[<- Qek h (getElem?_eq_getElem b) (Nat.mod_lt i e),Nat.mul_comm,Nat.div_add_mod];exact d
def Q5.cells{a:Option Addr}{len n:Nat}{α:Type}{l:List α}{Q:α->List Value->Prop}(h:Q5 U a len n l Q):∃R:List (List Value),R.length=len/\(∀r∈R,r.length=n)/\∀i x,l[i]?=some x->∃r,R[i]?=some r/\Q x r/\∃b,a=some b/\b.spot=none/\Jn U (b.add (i*n)) r:=by
 have d:∀i,∃r:List Value,∀x,l[i]?=some x->Q x r/\r.length=n/\∃b,a=some b/\b.spot=none/\Jn U (b.add (i*n)) r:=λ i=>by
  cases f:l[i]? with
  |none=>exact⟨[],λ x e=>by cases e⟩
  |some x=>
   obtain⟨b,vs,m,o,q,s,t⟩:=h.2 i x f;exact⟨vs,λ y e=>by cases e;exact⟨q,s,b,m,o,t⟩⟩
 refine⟨(range len).map λ i=>Classical.choose (d i),S1,λ r u=>?_,λ i x f=>?_⟩
 .obtain⟨i,hi,rfl⟩:=mem_map.1 u;rw[mem_range]at hi;have g:i<l.length:=by rw[h.1];exact hi
  exact(Classical.choose_spec (d i) _ (getElem?_eq_getElem g)).2.1
 .have hi:i<len:=by rw[<- h.1];exact(List.getElem?_eq_some_iff.1 f).1
  have j:=Classical.choose_spec (d i) x f;exact⟨_,by rw[getElem?_map,getElem?_range hi];rfl,j.1,j.2.2⟩
def Qdh{a:Addr}(b:a.spot=none){n s:Nat}(g:0<n){L:List (List Value)}(d:∀r∈L,r.length=n)(h:∀j r,L[j]?=some r->Jn U (a.add ((s+j)*n)) r):Jn U (a.add (s*n)) L.flatten:=by
 intro i v m;obtain⟨r,l,f⟩:=Qqa g d m;have:=h _ r l _ v f;obtain⟨o,q,t⟩:=a;cases b;rw[Qo,Qo]at this ⊢;have e:(s+i / n)*n+i % n=s*n+i:=by rw[Nat.add_mul,Nat.add_assoc,Nat.mul_comm (i / n) n,Nat.div_add_mod]
 rw[Nat.add_assoc,e]at this;rw[Nat.add_assoc];exact this
def Qbj(c:Array Value)(n:Nat)(g:Nat->List Value):Prop:=∀j k v,j<n->k<4->(g j)[k]?=some v->c[j*4+k]?=some v
def Qbj.set{c:Array Value}{n:Nat}{g:Nat->List Value}(h:Qbj c n g)(l:n*4<=c.size){i:Nat}(o:i<n)(m:(g i).length=4)(v:Value):Qbj (c.setIfInBounds (i*4+3) v) n λ j=>if j=i then(g i).set 3 v else g j:=by
 intro j k u d f a;simp only at a;by_cases e:j*4+k=i*4+3
 .obtain⟨rfl,rfl⟩:j=i/\k=3:=O1
  rw[if_pos rfl,getElem?_set,if_pos rfl,if_pos O1]at a;cases a;rw[Array.getElem?_setIfInBounds_self_of_lt O1]
 .rw[Array.getElem?_setIfInBounds_ne O1];by_cases b:j=i
  .subst b;rw[if_pos rfl,getElem?_set,if_neg O1]at a;exact h j k u d f a
  .rw[if_neg b]at a;exact h j k u d f a
def Qvz{R:List (List Value)}{n t j:Nat}(a:R.length=n)(d:t<n)(b:j<n):(R.drop t++R.take t)[j]?=R[(j+t) % n]?:=by
 by_cases h:j<n-t
 .rw[getElem?_append_left (by rw[length_drop];omega),getElem?_drop,Nat.mod_eq_of_lt O1,Nat.add_comm]
 .rw[getElem?_append_right (by rw[length_drop];omega),length_drop,a,Nat.mod_eq_sub_mod O1,Nat.mod_eq_of_lt O1,getElem?_take,if_pos O1];congr 1;omega
def QS.lgr{a:Option Addr}{cs:List Value}(h:QS U a cs)(d:U.lg U'):QS U' a cs:=by
 rcases h with h|⟨b,e,f⟩
 .exact .inl h
 .exact .inr ⟨b,e,f.lg d⟩
def Qvo:List (Value×List Int)->List Qx->Prop
 |[],X=>X=[]
 |p::b,X=>∃A a,X=A++a/\Jw 3 1 p.1 (p.2.map λ n=>.int .i64 n) A/\Qvo b a
def Qb.pend{f:FuncId}{args:Array Value}{X:List Qx}:∀(n:List (Value×List Int)){R:Value->Qa T->Prop},(∀v l m,l.lg m->R v l->R v m) ->
  Qb S f args (λ v U'=>R v U'.frz/\∃Y,U'.M=Y++X/\Qvo n Y) U->Qb S f args (λ v U'=>R v U'.frz/\U'.M=X/\∀p∈n,Jd U'.frz p.1 p.2) U
 |[],R,_,h=>h.mono λ v U'⟨b,Y,d,g⟩=>by
   have g:Y=[]:=g;subst g;exact⟨b,d,S1⟩
 |p::n,R,x,h=>by
  have:=Qb.pend n (R:=λ v U'=>R v U'/\Jd U' p.1 p.2) (λ v l m y⟨b,d⟩=>⟨x v l m y b,d.lg y⟩) (h.sep λ v U' D⟨b,Y,d,A,o,e,g,s⟩=>?_) (X:=X)
  .refine this.mono λ v U'⟨⟨b,d⟩,g,s⟩=>⟨b,g,λ q t=>?_⟩;rcases mem_cons.1 t with rfl|t
   .exact d
   .exact s q t
  .have ha:=g (o++X);obtain⟨j,F,u,a,len,cap,z,w,B,C,-⟩:=Acc.freeze (U:={ U' with M:=o++X }) D (by rw[d,e,append_assoc];exact ha) (λ _ _ h=>h) rfl;have E:U'.frz.lg j.frz:=⟨u.imm,⟨[],rfl⟩,u.tok⟩;refine⟨j,F,⟨x v _ _ E b,a,cap,?_,Vf B C⟩,o,u.own,s⟩;rw[z];simp at w;rw[w]
def Bk.rotTo(b:Bk)(t i k:Nat):List Int:=((range k).filter λ k=>(b.cas ((i+t) % b.cs.length)).af.contains (((k+t) % b.cs.length:Nat):Int)).map λ(k:Nat)=>(k:Int)
def Bk.rotTo_succ(b:Bk)(t i k:Nat):b.rotTo t i (k+1)=b.rotTo t i k++(if(b.cas ((i+t) % b.cs.length)).af.contains (((k+t) % b.cs.length:Nat):Int)then[(k:Int)]else[]):=by
 unfold Bk.rotTo;rw[range_succ,filter_append,map_append];congr 1;cases h:(b.cas ((i+t) % b.cs.length)).af.contains (((k+t) % b.cs.length:Nat):Int)
 .rw[filter_cons,h];rfl
 .rw[filter_cons,h];rfl
def Bk.rotTo_len(b:Bk)(t i k:Nat):(b.rotTo t i k).length<=k:=by
 unfold Bk.rotTo;rw[length_map];exact Nat.le_trans (length_filter_le _ _) S1
def Bk.pl(b:Bk)(t i:Nat)(w:Nat->Value):List (Value×List Int):=(range i).reverse.map λ j=>(w j,b.rotAf t j)
def Bk.pl_succ(b:Bk)(t i:Nat)(w:Nat->Value)(v:Value):b.pl t (i+1) (λ j=>if j=i then v else w j)=(v,b.rotAf t i)::b.pl t i w:=by
 unfold Bk.pl;rw[range_succ,reverse_append,map_append];simp only[reverse_cons,reverse_nil,nil_append,map_cons,map_nil,if_true,cons_append];congr 1;refine map_congr_left λ j a=>?_;rw[mem_reverse,mem_range]at a;rw[if_neg O1]
def HT.row{c:Cs}{vs:List Value}(h:HT U c vs):vs.length=4/\(∀v∈vs,v.single=true):=by
 obtain⟨e,g,f,a,d,b,rfl,-⟩:=h;exact⟨rfl,by simp[Value.single]⟩
end Go.TM
namespace Go.Proofs
open Go.TM
def Qdc:List (List (Nat×St)):=[[(0,.xo 37 1 2),(0,.xl 38 37),(0,.m 39 6),(0,.d 40 (.sub3 4 (.t 38) (some (.t 39)) none)),(0,.xo 42 1 2),(0,.xl 43 42),(0,.m 44 6),(0,.d 45 (.sub3 4 (.t 43) none (some (.t 44)))),(2,.d 36 (.bsl 49 0 #[] [])),(2,.xz 41 36 40 23)]]
def Qpf:List St:=[.xz 46 41 45 23,.xo 47 1 7,⟨.st 1 (.t 47) (.t 46),none,none,none⟩]
attribute [local irreducible] Qb Zl Wt
set_option maxHeartbeats 4000000 in
def Qp5{U:Qa Tk}(a1:U.tok=⟨0,.out,none⟩)(hk:WA U)(h:BH)(b:Bk)(hb:Zq U.frz h b)(di:DH b)(dk:h.rl<=h.rc)(c5:h.cl<=h.cc)(rt:Nat)(eb:rt<256) :
  J (Zb Tryz.prog 209 6) (QA Tryz.prog λ v U'=>v=.bool true/\U.lg U') true (Rf (Frame.enter Tryz.prog 8 #[h.v,.int .u8 (rt:Int)] .normal) []) U:=by
 refine Zpy (args:=[_,_]) (Q:=λ v U'=>v=.bool true/\U.lg U') Qvy Qf K1 S1 (λ v U' q=>q.2.tok.trans a1) ?_;have an:=hb.cs.1;have ea:=hb.rs.1;have bl:∀K:Qa Tk,U.lg K->Qb (Zb Tryz.prog 209 6) 20 #[] (λ v U'=>v=.bool true/\U'=K) K:=λ K h=>Zm2 (h.tok.trans a1) (hk.lg h)
 repeat refine⟨rfl,?_⟩
 conv=>whnf
 intro B d T hB;have hB:Zi d B #[.slice h.ra h.rl h.rc,.slice h.ca h.cl h.cc]:=hB;have a3:Zi d.frz B #[.slice h.ra h.rl h.rc,.slice h.ca h.cl h.cc]:=hB;have ak:=hb.lg T.lg.frz2;have bi:∀w:Qa Tk,d.frz.lg w->Jn w ⟨B,0,none⟩ [.slice h.ra h.rl h.rc,.slice h.ca h.cl h.cc]:=λ w hw=>(a3.lg hw).rd;refine⟨_,⟨rfl,bi _ Qp⟩,kh.any,(Zm1 h b ak di dk).mono ?_⟩;rintro _ U'⟨⟨g,rfl,hg⟩,cx⟩-;obtain rfl:=cx.symm;have WD:Qb (Zb Tryz.prog 209 6) 20 #[] (λ v U'=>v=.bool true/\U'=d) d:=bl _ T.lg;cases g with
 |false=>
  refine⟨yL.any,WD.go λ _=>?_⟩
  repeat refine⟨rfl,?_⟩
  conv=>whnf
  exact T.lg
 |true=>
 have hf:b.flaw Qu=0:=hg rfl;refine⟨_,hB.sees3 (o:=1) rfl,?_⟩
 repeat refine⟨rfl,?_⟩
 conv=>whnf
 apply Qe<;>intro W
 .refine⟨yL.any,WD.go λ _=>?_⟩
  repeat refine⟨rfl,?_⟩
  conv=>whnf
  exact T.lg
 have a9:0<h.cl:=by simp at W;omega
 have b6:=Bk.ok_of hf;have d7:=b6.nc;have d8:=b6.nr;obtain⟨t,cf⟩:∃t,t=rt % h.cl:=⟨_,rfl⟩;have ht:t<h.cl:=cf▸Nat.mod_lt _ a9;have b7:(IntKind.wrap .i64 (rt:Int)).tmod (h.cl:Nat)=(t:Nat):=by rw[ZZ O1,cf];exact(Int.ofNat_tmod _ _).symm
 refine⟨_,hB.sees3 (o:=1) rfl,rfl,O1,?_⟩;rw[b7];refine⟨_,⟨rfl,bi _ Qp⟩,?_⟩
 conv=>whnf
 intro ob d9;refine⟨_,.refl _,rfl,HR (vs:=[.slice h.ra h.rl h.rc,.slice h.ca h.cl h.cc]) rfl (by simp[Value.single]) ?_⟩;obtain⟨R,a7,ae,cw⟩:=ak.cs.cells;obtain⟨ad,c0,-,-,ba,b9,-,-,-⟩:=ak.cs.at a9
 have ai:∀m,m<h.cl->∃r,R[m]?=some r/\HT d.frz (b.cas m) r/\Jn d.frz (ad.add (m*4)) r:=λ m hm=>by
  obtain⟨r,Z,h2,ck,h3,-,h5⟩:=cw m (b.cas m) (by simp[Bk.cas,getD_eq_getElem?_getD,show m<b.cs.length by omega]);obtain rfl:ad=ck:=Option.some.inj (ba.symm.trans h3);exact⟨r,Z,h2,h5⟩
 have br:∀r∈R,∀v∈r,v.single=true:=λ r H=>by
  obtain⟨m,hm,e⟩:=mem_iff_getElem.1 H;obtain⟨r',Z,h2,-⟩:=ai m O1;obtain rfl:r=r':=by rw[getElem?_eq_getElem hm]at Z;exact e.symm.trans (Option.some.inj Z)
  exact h2.row.2
 have dm:QS d.frz (some (ad.add (t*4))) (R.drop t).flatten:=.inr ⟨_,rfl,Qdh b9 O1 (λ r H=>ae r (mem_of_mem_drop H)) λ j r G=>by
  rw[getElem?_drop]at G;have C:=(List.getElem?_eq_some_iff.1 G).1;obtain⟨r',Z,-,h3⟩:=ai (t+j) O1;rw[G]at Z;cases Z;exact h3⟩
 have dn:QS d.frz (some (ad.add (0*4))) (R.take t).flatten:=.inr ⟨_,rfl,Qdh b9 O1 (λ r H=>ae r (mem_of_mem_take H)) λ j r G=>by
  rw[getElem?_take]at G;split at G
  .have C:=(List.getElem?_eq_some_iff.1 G).1;obtain⟨r',Z,-,h3⟩:=ai j O1;rw[G]at Z;cases Z;rw[Nat.zero_add];exact h3
  .cases G⟩
 have aq:(R.drop t).flatten.length=(h.cl-t)*4:=by rw[Qaq λ r H=>ae r (mem_of_mem_drop H),length_drop,a7]
 have ay:(R.take t).flatten.length=t*4:=by rw[Qaq λ r H=>ae r (mem_of_mem_take H),length_take,a7,Nat.min_eq_left O1]
 have e1:(if h.cc=t then h.ca else h.ca.map (·.add (t*4)))=some (ad.add (t*4)):=by rw[if_neg O1,ba];rfl
 have e2:(if h.cc=0 then h.ca else h.ca.map (·.add (0*4)))=some (ad.add (0*4)):=by rw[if_neg O1,ba];rfl
 let N:Nat->List Value:=λ j=>R.getD ((j+t) % h.cl) []
 have au:∀j,(j+t) % h.cl<h.cl:=λ j=>Nat.mod_lt _ a9
 have bx:∀j,HT d.frz (b.cas ((j+t) % h.cl)) (N j):=λ j=>by
  obtain⟨r,Z,h2,-⟩:=ai _ (au j);have:N j=r:=by simp[N,getD_eq_getElem?_getD,Z]
  rw[this];exact h2
 let d1:Qx:=.obj ob (.cells [.slice h.ra h.rl h.rc,.slice h.ca h.cl h.cc].toArray 25 (0,0))
 generalize aw:(d.put ob (.cells [.slice h.ra h.rl h.rc,.slice h.ca h.cl h.cc].toArray 25):Qa Tk)=K;have bo:∀x o,d.I x=some o->K.I x=some o:=by rw[<- aw];exact λ _ _ h=>h
 have cu:K.M=d1::d.M:=by rw[<- aw];rfl
 have ce:K.tok=d.tok:=by rw[<- aw];rfl
 clear aw;have ab:d.frz.lg K.frz:=⟨bo,⟨[],rfl⟩,ce⟩
 conv=>whnf
 intro d5 ao
 refine SQ (mu:=[1006]) (ops:=Pl Tryz.f8 6) (id:=6) ao [0,5] [[1,2,3,4,6,7,8,9,0,5]] [10,11,12] Qdc Qpf Qf K1 K1 K1 K1 K1
  (λ f' bk U'=>bk=[]/\∃a l c,XF f' [(2,.pointer (some ⟨B,0,none⟩)),(5,.int .i64 h.cl),(6,.int .i64 t),(7,.pointer (some ⟨ob,0,none⟩)),(41,.slice a l c),(45,.slice (some (ad.add (0*4))) t h.cc)]/\K.frz.lg U'/\Acc 49 4 (.slice a l c) (R.drop t).flatten U'.M K.M) ?_ ?_
 .intro l C;simp only[Qdc,mem_cons,not_mem_nil,or_false]at C;subst C;refine⟨_,(a3.lg ab).sees3 (o:=1) rfl,t,h.cl,⟨rfl,rfl,O1,c5⟩,?_⟩;rw[e1];refine⟨_,(a3.lg ab).sees3 (o:=1) rfl,0,t,⟨rfl,rfl,O1,O1⟩,?_⟩;rw[e2];refine⟨λ v U'=>∃p,v=.slice (some ⟨p,0,none⟩) 0 0/\K.frz.lg U'/\U'.M=.obj p (.cells #[] 49 (0,0))::K.M,λ v x1 x2⟨p,e,C,hM⟩D=>⟨p,e,C.trans D.lg,D.own.trans hM⟩,λ v U'⟨p,e,C,hM⟩=>C,λ U' hC=>?_,λ v E=>?_⟩
  .conv=>whnf
   intro p hp;exact⟨_,.refl _,_,.refl _,p,rfl,⟨λ x o hx=>hC.imm x o hx,⟨_,(append_nil _).symm⟩,hC.tok⟩,by show _::U'.M=_;rw[hC.own]⟩
  obtain⟨_,p,rfl,-⟩:=E;refine⟨λ v U'=>(∃a l c,v=.slice a l c)/\K.frz.lg U'/\Acc 49 4 v (R.drop t).flatten U'.M K.M,λ v x1 x2⟨e,C,hM⟩D=>⟨e,C.trans D.lg,by rw[D.own];exact hM⟩,λ v U'⟨e,C,hM⟩=>C,λ U' hC=>?_,λ v E=>?_⟩
  .obtain⟨p',e,C,hM⟩:=hC;obtain rfl:p=p':=by simpa using e
   conv=>whnf
   refine Ws (v:=.slice (some ⟨p,0,none⟩) 0 0) (cs:=[]) (new:=(R.drop t).flatten) (M₀:=K.M) Mf rfl rfl (.inr ⟨p,#[],0,0,rfl,rfl,Nat.le_refl _,rfl,hM,S1⟩) (dm.lgr (ab.trans C.frz2|>.trans Qp)) aq (λ w hw=>by obtain⟨r,H,hw⟩:=mem_flatten.1 hw;exact br r (mem_of_mem_drop H) w hw) (by rw[aq];simp;omega) λ v' M' V _=>?_;rw[nil_append]at V;obtain⟨a',l',c',rfl,-⟩:=Acc.src (U:={ U' with M:=M' }) V;exact⟨_,.refl _,⟨_,_,_,rfl⟩,⟨C.imm,⟨_,(append_nil _).symm⟩,C.tok⟩,V⟩
  obtain⟨_,⟨a,l,c,rfl⟩,-⟩:=E
  conv=>whnf
  rintro U'⟨-,C,hM⟩;exact⟨rfl,a,l,c,T1,C,hM⟩
 rintro f' bk U3⟨rfl,cj,d0,cp,bw,ar,aj⟩;rw[<- bw.ovr];clear bw
 conv=>whnf
 refine Ws (v:=.slice cj d0 cp) (cs:=(R.drop t).flatten) (new:=(R.take t).flatten) (M₀:=K.M) Mf rfl rfl aj (dn.lgr (ab.trans ar.frz2|>.trans Qp)) ay (λ w hw=>by obtain⟨r,H,hw⟩:=mem_flatten.1 hw;exact br r (mem_of_mem_take H) w hw) (by rw[aq,ay];omega) λ v' M' V _=>?_;rcases V with⟨-,b4,-⟩|⟨L,c,len,cap,rfl,de,d6,df,a4,bu⟩
 .exfalso;have:=congrArg List.length b4;rw[length_append,aq,ay,length_nil]at this;omega
 obtain rfl:len=h.cl:=by rw[length_append,aq,ay]at de;omega
 have c4:Qbj c h.cl N:=λ j k v G hk E=>by
  have Z:=Qvz a7 ht G;obtain⟨r,h2,-⟩:=ai _ (au j);have e:N j=r:=by simp[N,getD_eq_getElem?_getD,h2]
  rw[e]at E;refine bu _ v ?_;rw[<- flatten_append,Qek (m:=4) (λ r H=>?_) (Z.trans h2) hk]
  .exact E
  .rcases mem_append.1 H with H|H
   .exact ae r (mem_of_mem_drop H)
   .exact ae r (mem_of_mem_take H)
 let MB:Array Value->List Qx:=λ c=>.obj L (.cells c 49 (0,0))::.obj ob (.cells [.slice h.ra h.rl h.rc,.slice (some ⟨L,0,none⟩) h.cl cap].toArray 25 (0,0))::d.M
 refine⟨rfl,WS (i:=1) (v:=.slice (some ⟨L,0,none⟩) h.cl cap) [_] (by show M'=_;rw[a4,cu];rfl) (by show 1<2;omega) rfl λ U4 cr du a5=>?_⟩;have a5:U4.M=MB c:=a5;have dg:d.frz.lg U4:=⟨λ x o hx=>by rw[cr];exact ar.imm x o (bo x o hx),⟨_,(append_nil _).symm⟩,du.trans (ar.tok.trans ce)⟩
 conv=>whnf
 intro a' ag;refine⟨by rw[ag.size,ao.size],_,ag.get,?_⟩;rw[ag.ds];clear ag ao aj
 let gA:Nat->(Nat->Value)->Nat->List Value:=λ i w j=>if j<i then(N j).set 3 (w j)else N j
 refine⟨Nat×(Nat->Value),λ y=>[(2,.pointer (some ⟨B,0,none⟩)),(5,.int .i64 h.cl),(6,.int .i64 t),(7,.pointer (some ⟨ob,0,none⟩)),(8,.int .i64 y.1)],λ y U'=>d.frz.lg U'/\y.1<=h.cl/\∃Y c,U'.M=Y++MB c/\Qvo (b.pl t y.1 y.2) Y/\c.size=cap*4/\Qbj c h.cl (gA y.1 y.2),λ y=>h.cl-y.1,(0,λ _=>.bool false),T1,⟨dg,O1,[],c,a5,rfl,df,λ j k v G hk E=>c4 j k v G hk (by simpa[gA]using E)⟩,?_⟩;rintro⟨i,w⟩f U5⟨ap,hi,Y,c,bp,a6,dt,ax⟩;simp only at hi a6 ax;have db:Zu ((i:Int)+1):=I1
 repeat refine⟨rfl,?_⟩
 conv=>whnf
 apply Qe<;>intro W
 .have hlt:i<h.cl:=by simpa using W
  obtain⟨ga,gl,gc,aa,al,ac,s,bd,bz,cy,cz⟩:=bx i;have av:h.cl=b.cs.length:=O1
  refine⟨Nat×Value,λ y=>[(2,.pointer (some ⟨B,0,none⟩)),(5,.int .i64 h.cl),(6,.int .i64 t),(7,.pointer (some ⟨ob,0,none⟩)),(8,.int .i64 i),(9,y.2),(10,.int .i64 y.1)],λ y U'=>d.frz.lg U'/\y.1<=h.cl/\∃A,U'.M=A++(Y++MB c)/\Jw 3 1 y.2 ((b.rotTo t i y.1).map λ n=>.int .i64 n) A,λ y=>h.cl-y.1,(0,.slice none 0 0),T1,⟨ap,O1,[],bp,.nil⟩,?_⟩;rintro⟨k,vc⟩f U6⟨bg,dc,A,ah,F⟩;simp only at dc F;obtain⟨sa,sl,sc,rfl,ec⟩:=F.src;have az:Zu ((k:Int)+1):=I1
  have a0:U6.sees ((Addr.mk ob 0 none).add 1) (.slice (some ⟨L,0,none⟩) h.cl cap):=Za (U:=U6) (A++(Y++[.obj L (.cells c 49 (0,0))])) (vs:=[.slice h.ra h.rl h.rc,.slice (some ⟨L,0,none⟩) h.cl cap]) (e:=25) (M₀:=d.M) (by rw[ah];simp[MB]) 1 _ rfl;have bq:U6.M=(A++Y)++.obj L (.cells c.toList.toArray 49 (0,0))::.obj ob (.cells [.slice h.ra h.rl h.rc,.slice (some ⟨L,0,none⟩) h.cl cap].toArray 25 (0,0))::d.M:=by rw[ah];simp[MB]
  repeat refine⟨rfl,?_⟩
  conv=>whnf
  apply Qe<;>intro W
  .have hltk:k<h.cl:=by simpa using W
   have a8:c[i*4+3]?=some (.slice aa al ac):=ax i 3 _ hlt O1 (by show(if i<i then _ else N i)[3]?=_;rw[if_neg O1,s];rfl)
   have dr:U6.sees (((Addr.mk L 0 none).add (i*4)).add 3) (.slice aa al ac):=by
    have:=Za (U:=U6) (A++Y) bq (i*4+3) (.slice aa al ac) (by simpa using a8);rw[Qo]at this;rw[Qo,Qo,Nat.add_assoc];exact this
   have b8:((k:Int)+(t:Int)).tmod (h.cl:Nat)=(((k+t) % b.cs.length:Nat):Int):=by rw[<- av];exact(Int.ofNat_tmod _ _).symm
   have bf:Zu ((k:Int)+(t:Int)):=I1
   have z:=b.rotTo_succ t i k;have d4:=b.rotTo_len t i k;rw[<- av]at z b8;refine⟨_,a0,⟨L,0,none⟩,i,⟨rfl,rfl,hlt⟩,_,dr,bf,rfl,O1,?_⟩;rw[b8]
   conv=>whnf
   intro U7 h7 _;have bh:=bg.trans h7.lg;refine⟨Qf7.any,(Qcf aa al ac _ (cy.lg bh) cz (((k+t) % h.cl:Nat):Int)).go λ _=>?_⟩;cases bv:(b.cas ((i+t) % h.cl)).af.contains (((k+t) % h.cl:Nat):Int)with
   |false=>
    rw[bv,if_neg S1,append_nil]at z;refine⟨az,?_⟩
    conv=>whnf
    exact⟨rfl,(k+1,.slice sa sl sc),T1,⟨bh,by show k+1<=h.cl;omega,A,h7.own.trans ah,by show Jw 3 1 _ ((b.rotTo t i (k+1)).map _) A;rw[z];exact F⟩,L1⟩
   |true=>
    rw[bv,if_pos rfl]at z
    conv=>whnf
    intro bn am;refine Zk am λ U8 h8 am=>?_;have am:Zi U8 bn #[.int .i64 k]:=am;have b3:=bh.trans h8.lg
    conv=>whnf
    refine Ws (v:=.slice sa sl sc) (cs:=(b.rotTo t i k).map λ n=>.int .i64 n) (new:=[.int .i64 (k:Int)]) (M₀:=Y++MB c) Hf rfl rfl (by rw[h8.own,h7.own,ah];exact F _) (.inr ⟨_,rfl,am.rd⟩) rfl (by simp[Value.single]) S3 λ v' M' V _=>?_;obtain⟨A2,a4,bs⟩:=V.split;obtain⟨ta,tl,tc,rfl,-⟩:=bs.src;refine⟨az,?_⟩
    conv=>whnf
    exact⟨rfl,(k+1,.slice ta tl tc),T1,⟨⟨b3.imm,⟨_,(append_nil _).symm⟩,b3.tok⟩,by show k+1<=h.cl;omega,A2,a4,by show Jw 3 1 _ ((b.rotTo t i (k+1)).map _) A2;rw[z,map_append];exact bs⟩,L1⟩
  have bc:k=h.cl:=by simp at W;omega
  have bb:b.rotTo t i k=b.rotAf t i:=by rw[bc,av];rfl
  rw[bb]at F;refine⟨_,a0,⟨L,0,none⟩,i,⟨rfl,rfl,hlt⟩,rfl,?_⟩;rw[show((Addr.mk L 0 none).add (i*4)).add 3=(Addr.mk L 0 none).add (i*4+3) by rw[Qo,Qo,Qo,Nat.add_assoc]];refine WS (i:=i*4+3) (c:=c) (v:=.slice sa sl sc) (A++Y) (e:=49) (M₀:=(MB c).tail) (by rw[ah];simp[MB]) O1 rfl λ U7 ct dv cv=>?_;have b0:(gA i w i).length=4:=by show(if i<i then _ else N i).length=4;rw[if_neg O1,s];rfl
  have c3:=ax.set O1 hlt b0 (.slice sa sl sc);refine⟨db,rfl,(i+1,λ j=>if j=i then .slice sa sl sc else w j),T1,⟨⟨λ x o hx=>by rw[ct];exact bg.imm x o hx,⟨_,(append_nil _).symm⟩,dv.trans bg.tok⟩,by show i+1<=h.cl;omega,A++Y,_,cv,by show Qvo (b.pl t (i+1) _) _;rw[b.pl_succ];exact⟨A,Y,rfl,F,a6⟩,by simpa using dt,λ j k v G hk E=>c3 j k v G hk ?_⟩,L1⟩;have E:(if j<i+1 then(N j).set 3 (if j=i then .slice sa sl sc else w j)else N j)[k]?=some v:=E;show(if j=i then(if i<i then _ else N i).set 3 _ else if j<i then(N j).set 3 (w j)else N j)[k]?=some v;by_cases e:j=i
  .subst e;rw[if_pos O1,if_pos rfl]at E;rw[if_pos rfl,if_neg O1];exact E
  .rw[if_neg e]at E ⊢;by_cases e':j<i
   .rw[if_pos O1]at E;rw[if_pos e'];exact E
   .rw[if_neg O1]at E;rw[if_neg e'];exact E
 have bc:i=h.cl:=by simp at W;omega
 subst bc;have cd:t<b.cs.length:=O1
 have ag:=Bk.rot_flaw hf cd;obtain⟨ci,ch⟩:=Bk.rot_says hf cd
 let ho:BH:=⟨h.ra,h.rl,h.rc,some ⟨L,0,none⟩,h.cl,cap⟩
 have c8:(b.rot t).fatesC.length=h.cl:=by simp[Bk.fatesC,Bk.rot,an]
 have c9:b.fatesC.length=h.cl:=by simp[Bk.fatesC,an]
 have dd:WA d:=hk.lg T.lg;have b2:WA d.frz:=dd
 have a2:Qb (Zb Tryz.prog 209 6) 26 #[h.v] (λ v U'=>(∃O P,v=.tuple #[O,P,.int .i64 0]/\Jd U'.frz O b.fatesR/\Jd U'.frz P b.fatesC)/\d.le U'/\Zq U'.frz ho (b.rot t)/\Zi U' ob [.slice h.ra h.rl h.rc,.slice (some ⟨L,0,none⟩) h.cl cap].toArray) U5:=by
  have dh:∀U':Qa Tk,U5.le U'->d.frz.lg U'.frz:=λ U' D=>ap.frz2.trans D.lg.frz2
  have d2:=Qb.pend (S:=Zb Tryz.prog 209 6) (X:=MB c) (b.pl t h.cl w) (R:=λ v U'=>(∃O P,v=.tuple #[O,P,.int .i64 0]/\Jd U' O b.fatesR/\Jd U' P b.fatesC)/\d.frz.lg U') (λ v x1 x2 C⟨⟨O,P,e,k1,k2⟩,k3⟩=>⟨⟨O,P,e,k1.lg C,k2.lg C⟩,k3.trans C⟩) ((yC h b (ak.lg (ap.frz2)) (b2.lg ap)).mono λ v U'⟨⟨O,P,e,k1,k2⟩,D⟩=>by
   rw[hf]at e k1 k2;rw[if_pos rfl]at k1 k2;exact⟨⟨⟨O,P,e,k1,k2⟩,dh U' D⟩,Y,D.own.trans bp,a6⟩)
  have d3:=d2.sep (R':=λ v U'=>((∃O P,v=.tuple #[O,P,.int .i64 0]/\Jd U'.frz O b.fatesR/\Jd U'.frz P b.fatesC)/\d.frz.lg U'.frz)/\U'.M=(MB c).tail/\(∀p∈b.pl t h.cl w,Jd U'.frz p.1 p.2)/\Zi U'.frz L c) λ v U' hs⟨⟨⟨O,P,e,k1,k2⟩,k3⟩,hM,hp⟩=>by
   obtain⟨x1,z1,z2,z3⟩:=EF (U:={ U' with M:=(MB c).tail }) hs hM (λ _ _ h=>h) rfl rfl;have hz:U'.frz.lg x1.frz:=⟨z2.imm,⟨[],rfl⟩,z2.tok⟩;exact⟨x1,z1,⟨⟨O,P,e,k1.lg hz,k2.lg hz⟩,k3.trans hz⟩,z2.own,λ p dj=>(hp p dj).lg hz,⟨_,_,z3⟩⟩
  refine d3.sep λ v U' hs⟨⟨⟨O,P,e,k1,k2⟩,k3⟩,hM,hp,c1⟩=>?_;obtain⟨x1,z1,z2,z3⟩:=EF (U:={ U' with M:=d.M }) hs hM (λ _ _ h=>h) rfl rfl;have hz:U'.frz.lg x1.frz:=⟨z2.imm,⟨[],rfl⟩,z2.tok⟩;have cg:d.frz.lg x1.frz:=k3.trans hz;have bt:=c1.lg hz;refine⟨x1,z1,⟨O,P,e,k1.lg hz,k2.lg hz⟩,⟨λ x u hx=>z2.imm x u (k3.imm x u hx),z2.own,z2.tok.trans k3.tok⟩,⟨?_,⟨by simp[Bk.rot,ho,an],λ j x hx=>?_⟩,hb.rl,hb.cl,hb.rn,?_⟩,⟨_,_,z3⟩⟩
  .exact(ak.lg cg).rs
  .have G:j<h.cl:=by have:=(List.getElem?_eq_some_iff.1 hx).1;simp[Bk.rot]at this;omega
   have bj:x={ b.cas ((j+t) % b.cs.length)with af:=b.rotAf t j }:=by
    have:(b.rot t).cas j=x:=by simp[Bk.cas,getD_eq_getElem?_getD,hx]
    rw[<- this,b.rot_cas t O1]
   obtain⟨ga,gl,gc,aa,al,ac,s,bd,bz,-,-⟩:=bx j;obtain⟨wa,wc,dx,dw⟩:=(hp (w j,b.rotAf t j) (mem_map.2 ⟨j,by simp[G],rfl⟩)).lg hz;have ed:(b.rotAf t j).length<=b.cs.length:=b.rotTo_len t j b.cs.length;rw[show h.cl=b.cs.length by omega]at bd s;refine⟨⟨L,0,none⟩,(N j).set 3 (w j),rfl,rfl,⟨ga,gl,gc,wa,(b.rotAf t j).length,wc,?_,by rw[bj];exact bd.lg cg,bz,by rw[bj];exact dw,O1⟩,by rw[s];rfl,λ k v E=>?_⟩
   .rw[s,bj];show[_,_,_,w j]=_;rw[show w j=_ from dx]
   .have hk4:k<4:=by have:=(List.getElem?_eq_some_iff.1 E).1;rw[s]at this;simpa using this
    have:=ax j k v G hk4 (by show(if j<h.cl then _ else _)[k]?=_;rw[if_pos G];exact E);rw[Qo,Qo,Nat.zero_add];exact bt.sees this
  .intro c' hc';obtain⟨i',da,e'⟩:=Bk.cas_ex hc';rw[<- e',b.rot_cas t (by simpa[Bk.rot]using da)];exact hb.cn (b.cas ((i'+t) % b.cs.length)) (Bk.mem_cas (Nat.mod_lt _ (show 0<b.cs.length by omega)))
 refine⟨_,⟨rfl,bi _ ap⟩,Fj.any,a2.mono ?_⟩;rintro _ U6⟨⟨_,_,rfl,⟨xa,xc,rfl,hX⟩,⟨ya,yc,rfl,hY⟩⟩,h6,c2,b5⟩-;refine⟨_,⟨rfl,b5.rd⟩,?_⟩;refine⟨Fj.any,(yC ho (b.rot t) c2 (hk.lg (T.trans h6).lg)).mono ?_⟩;rintro _ U7⟨⟨_,_,rfl,⟨ua,uc,rfl,hU⟩,⟨va,vc,rfl,hV⟩⟩,h7⟩-;rw[ag]at hU hV ⊢;rw[if_pos rfl]at hU hV;rw[if_pos rfl,if_pos rfl];rw[ci]at hU ⊢;rw[c8]at hV ⊢;rw[c9]at hY ⊢;have cq:=(T.trans h6).trans h7;refine⟨rfl,rfl,S4.any,(LL xa ua _ xc _ uc _ _ ((hX.lg h7.lg.frz2).lg Qp) (hU.lg Qp) (by simp[Bk.fatesR];omega)).go λ _=>?_⟩;rw[decide_eq_true rfl]
 repeat refine⟨rfl,?_⟩
 conv=>whnf
 apply Zr<;>intro W
 rotate_left
 .exact absurd W S1
 repeat refine⟨rfl,?_⟩
 conv=>whnf
 apply Qe<;>intro W
 .exact absurd W S1
 refine⟨Nat,λ j=>[(5,.int .i64 h.cl),(6,.int .i64 t),(12,.slice ya h.cl yc),(15,.slice va h.cl vc),(17,.int .i64 j)],λ j U'=>U7.le U'/\j<=h.cl,λ j=>h.cl-j,0,T1,⟨.refl _,O1⟩,?_⟩;rintro j f U8⟨h8,G⟩;have b1:Zu ((j:Int)+1):=I1
 have be:Zu ((j:Int)+(t:Int)):=I1
 have bm:=cq.trans h8
 repeat refine⟨rfl,?_⟩
 conv=>whnf
 apply Qe<;>intro W
 .have hlt:j<h.cl:=by simpa using W
  have dl:((j:Int)+(t:Int)).tmod (h.cl:Nat)=(((j+t) % h.cl:Nat):Int):=(Int.ofNat_tmod _ _).symm;obtain⟨cm,xV,dy,c6,-,dp⟩:=hV.at hlt;obtain⟨co,xY,dz,c7,-,dq⟩:=hY.at (au j)
  have e1:xV=xY:=by
   have q1:(b.rot t).fatesC[j]?=some ((b.rot t).fatC j):=by
    unfold Bk.fatesC;rw[getElem?_map,getElem?_range (by simp[Bk.rot];omega)];rfl
   have q2:b.fatesC[(j+t) % h.cl]?=some (b.fatC ((j+t) % h.cl)):=by
    unfold Bk.fatesC;rw[getElem?_map,getElem?_range (by rw[an];exact au j)];rfl
   have q3:=ch j O1;rw[an]at q3;rw[dy]at q1;rw[dz]at q2;rw[Option.some.inj q1,Option.some.inj q2,q3]
  subst e1;refine⟨cm,j,⟨c6,rfl,hlt⟩,_,dp.lg (SX Qp h8),be,rfl,O1,?_⟩;rw[dl];refine⟨co,(j+t) % h.cl,⟨c7,rfl,au j⟩,_,dq.lg (h7.lg.frz2.trans (SX Qp h8)),?_⟩
  conv=>whnf
  intro U9 h9 _
  repeat refine⟨rfl,?_⟩
  conv=>whnf
  apply Qe<;>intro W
  .exact absurd W S1
  refine⟨b1,?_⟩
  conv=>whnf
  exact⟨rfl,j+1,T1,⟨h8.trans h9,O1⟩,L1⟩
 refine⟨yL.any,(bl _ bm.lg).go λ _=>?_⟩
 repeat refine⟨rfl,?_⟩
 conv=>whnf
 exact bm.lg
end Go.Proofs

