/- Lemmas. No conditions. -/
import Derived.Test.YtnjljnhoaafkiaaGreatDoorB31
set_option linter.all false
open List
namespace Go.TM
structure Cs where
 nm:ByteArray
 ag:Int
 gs:List (List Int)
 af:List Int
structure Bk where
 rs:List ByteArray
 cs:List Cs
structure BH where
 ra:Option Addr
 rl:Nat
 rc:Nat
 ca:Option Addr
 cl:Nat
 cc:Nat
abbrev BH.v(h:BH):Value:=.agg #[.slice h.ra h.rl h.rc,.slice h.ca h.cl h.cc]
variable{T:Type}
def Wx(U:Qa T)(a:Option Addr)(len:Nat)(f:List (List Int)):Prop:=Q7 U a len 1 f λ l vs=>∃a' b cap',vs=[.slice a' b cap']/\Z6 U a' b l/\b<2^60
def Wx.lg{U U':Qa T}{a:Option Addr}{len:Nat}{f:List (List Int)}(h:Wx U a len f)(hl:U.lg U'):Wx U' a len f:=
 Q7.lg h hl λ _ _⟨a',b,cap',e,h1,h2⟩=>⟨a',b,cap',e,h1.lg hl,h2⟩
def P_(U:Qa T)(c:Cs)(vs:List Value):Prop:=
 ∃ga gl gc aa al ac,vs=[.string c.nm,.int .i64 c.ag,.slice ga gl gc,.slice aa al ac]/\Wx U ga gl c.gs/\gl<2^60/\Z6 U aa al c.af/\al<2^60
def P_.lg{U U':Qa T}{c:Cs}{vs:List Value}(h:P_ U c vs)(hl:U.lg U'):P_ U' c vs:=
 let ⟨ga,gl,gc,aa,al,ac,e,h1,h2,h3,h4⟩:=h;⟨ga,gl,gc,aa,al,ac,e,h1.lg hl,h2,h3.lg hl,h4⟩
structure Zs(U:Qa T)(h:BH)(b:Bk):Prop where
 rs:Q7 U h.ra h.rl 1 b.rs λ s vs=>vs=[.string s]
 cs:Q7 U h.ca h.cl 4 b.cs (P_ U)
 rl:h.rl<2^60
 cl:h.cl<2^60
 rn:∀s∈b.rs,s.size<2^60
 cn:∀c∈b.cs,c.nm.size<2^60
def Zs.lg{U U':Qa T}{h:BH}{b:Bk}(k:Zs U h b)(hl:U.lg U'):Zs U' h b:=
 ⟨k.rs.lg hl λ _ _ h=>h,k.cs.lg hl λ _ _ h=>h.lg hl,k.rl,k.cl,k.rn,k.cn⟩
instance decBA:DecidableEq ByteArray:=λ a b=>decidable_of_iff (a.data=b.data) ⟨λ h=>by cases a;cases b;simp_all,λ h=>by rw[h]⟩
def QV(b:Int):Option Int->List Int->Int
 |_,[]=>0
 |p,n::l=>if QP n 0 (b-1)then(match p with|some m=>if n<=m then 7 else QV b (some n) l|none=>QV b (some n) l)else 6
def Pq(b:Int)(p:Option Int)(n:Int)(l:List Int):QV b p (n::l)=if QP n 0 (b-1)then(match p with|some m=>if n<=m then 7 else QV b (some n) l|none=>QV b (some n) l)else 6:=rfl
def JW(l:List ByteArray)(s:ByteArray):Bool:=l.any λ x=>decide (x=s)
def GJ(nameB:ByteArray->Bool):List ByteArray->List ByteArray->Int
 |_,[]=>0
 |seen,s::l=>if nameB s then(if JW seen s then 5 else GJ nameB (seen++[s]) l)else 4
def X_(nr:Int):List (List Int)->Int
 |[]=>0
 |g::l=>if g.length > 3 then 2 else if QV nr none g=0 then X_ nr l else QV nr none g
def XT(nr:Int)(g:List (List Int)):Int:=if g.length > 3 then 2 else X_ nr g
def XY(nameB:ByteArray->Bool)(nr nc:Int):List ByteArray->List Cs->Int
 |_,[]=>0
 |seen,c::l=>if nameB c.nm then(if JW seen c.nm then 5 else
   if QP c.ag 0 (nr-1)then(if XT nr c.gs=0 then(if QV nc none c.af=0 then XY nameB nr nc (seen++[c.nm]) l else QV nc none c.af)else XT nr c.gs)else 6)else 4
def Bk.nr(b:Bk):Int:=b.rs.length
def Bk.nc(b:Bk):Int:=b.cs.length
def Bk.A(b:Bk):List (List Nat):=b.cs.map λ c=>c.af.map Int.toNat
def Bk.rsF(nameB:ByteArray->Bool)(b:Bk):Int:=if b.rs.length > 6 then 2 else GJ nameB [] b.rs
def Bk.csF(nameB:ByteArray->Bool)(b:Bk):Int:=if b.cs.length > 5 then 2 else XY nameB b.nr b.nc [] b.cs
def Bk.flaw(nameB:ByteArray->Bool)(b:Bk):Int:=if b.rsF nameB=0 then(if b.csF nameB=0 then(if Wy b.A then 8 else 0)else b.csF nameB)else b.rsF nameB
def Ya{b:Int}:∀{l:List Int}{p:Option Int},QV b p l=0->∀n∈l,0<=n/\n<b
 |[],_,_,n,f=>by cases f
 |x::l,p,h,n,f=>by
  rw[Pq]at h;by_cases hb:QP x 0 (b-1)=true
  .rw[if_pos hb]at h
   have hx:0<=x/\x<b:=by
    simp only[QP,Bool.and_eq_true,decide_eq_true_eq]at hb;omega
   have w:QV b (some x) l=0:=by
    cases p with
    |none=>exact h
    |some m=>
     simp only at h;split at h
     .cases h
     .exact h
   rcases mem_cons.1 f with rfl|f
   .exact hx
   .exact Ya w n f
  .rw[if_neg hb]at h;cases h
def Sw{nameB:ByteArray->Bool}{nr nc:Int}:∀{l:List Cs}{seen:List ByteArray},XY nameB nr nc seen l=0->∀c∈l,(0<=c.ag/\c.ag<nr)/\XT nr c.gs=0/\QV nc none c.af=0
 |[],_,_,c,b=>by cases b
 |x::l,seen,h,c,b=>by
  simp only[XY]at h;split at h
  .split at h
   .cases h
   .split at h
    .rename_i hag;split at h
     .rename_i hg;split at h
      .rename_i hr;rcases mem_cons.1 b with rfl|b
       .simp only[QP,Bool.and_eq_true,decide_eq_true_eq]at hag;exact⟨O1,hg,hr⟩
       .exact Sw h c b
      .rename_i hr;exact absurd h hr
     .rename_i hg;exact absurd h hg
    .cases h
  .cases h
def IM{nr:Int}:∀{l:List (List Int)},X_ nr l=0->∀g∈l,g.length<=3/\QV nr none g=0
 |[],_,g,b=>by cases b
 |x::l,h,g,b=>by
  simp only[X_]at h;split at h
  .cases h
  .split at h
   .rename_i hr;rcases mem_cons.1 b with rfl|b
    .exact⟨O1,hr⟩
    .exact IM h g b
   .rename_i hr;exact absurd h hr
structure Bk.Ok(b:Bk):Prop where
 nr:b.rs.length<=6
 nc:b.cs.length<=5
 ag:∀c∈b.cs,0<=c.ag/\c.ag<b.nr
 gl:∀c∈b.cs,c.gs.length<=3
 gs:∀c∈b.cs,∀g∈c.gs,g.length<=3/\∀n∈g,0<=n/\n<b.nr
 ri:∀c∈b.cs,QV b.nc none c.af=0
 af:∀c∈b.cs,∀n∈c.af,0<=n/\n<b.nc
 lo:Wy b.A=false
def Bk.ok_of{nameB:ByteArray->Bool}{b:Bk}(h:b.flaw nameB=0):b.Ok:=by
 unfold Bk.flaw at h;split at h
 .rename_i h1;split at h
  .rename_i h2;split at h
   .cases h
   .rename_i h3;unfold Bk.rsF at h1;unfold Bk.csF at h2;split at h1
    .cases h1
    .split at h2
     .cases h2
     .have hin:=Sw h2
      have z:∀c∈b.cs,c.gs.length<=3/\∀g∈c.gs,g.length<=3/\QV b.nr none g=0:=by
       intro c f;have:=(hin c f).2.1;unfold XT at this;split at this
       .cases this
       .exact⟨O1,IM this⟩
      exact⟨O1,O1,λ c f=>(hin c f).1,λ c f=>(z c f).1,λ c f g w=>⟨((z c f).2 g w).1,Ya ((z c f).2 g w).2⟩,λ c f=>(hin c f).2.2,λ c f=>Ya (hin c f).2.2,by simpa using h3⟩
  .rename_i h2;exact absurd h h2
 .rename_i h1;exact absurd h h1
def Bk.Ok.low{b:Bk}(h:b.Ok):∀i,i<b.A.length->∀k∈Jf b.A i,k<b.A.length:=by
 intro i f k w;simp only[Bk.A,length_map]at f ⊢;simp only[Jf,Bk.A,getD_eq_getElem?_getD,getElem?_map,getElem?_eq_getElem f,Option.map_some,Option.getD_some,mem_map]at w;obtain⟨n,z,rfl⟩:=w;have:=h.af _ (getElem_mem f) n z;unfold Bk.nc at this;omega
instance:Inhabited Cs:=⟨⟨⟨#[]⟩,0,[],[]⟩⟩
def Bk.cas(b:Bk)(i:Nat):Cs:=b.cs.getD i default
def LY(gs:List (List Int))(s:List Bool):Bool:=gs.any λ g=>g.all λ r=>s.getD r.toNat false
def Bk.stp(b:Bk)(x:List Bool×List Bool)(i:Nat):List Bool×List Bool:=if LY (b.cas i).gs x.1 then(x.1.set (b.cas i).ag.toNat false,x.2.set i true)else x
def Bk.ini(b:Bk):List Bool×List Bool:=(replicate b.rs.length true,replicate b.cs.length false)
def Bk.ends(b:Bk)(o:List Nat):List Bool×List Bool:=o.foldl b.stp b.ini
def Bk.ends_snoc(b:Bk)(o:List Nat)(i:Nat):b.ends (o++[i])=b.stp (b.ends o) i:=by simp[Bk.ends]
def Bk.can(b:Bk)(o:List Nat)(i:Nat):Bool:=!o.contains i&&(Jf b.A i).all λ k=>o.contains k
def Bk.ords(b:Bk):Nat->List Nat->List (List Nat)
 |0,o=>[o]
 |k+1,o=>(range b.cs.length).flatMap λ i=>if b.can o i then b.ords k (o++[i])else[]
def Bk.all(b:Bk):List (List Nat):=b.ords b.cs.length []
def Bk.ordL(b:Bk):List Nat->List Int->Int
 |_,[]=>0
 |o,i::l=>if QP i 0 (b.nc-1)then(if i.toNat∈o then 5 else if(Jf b.A i.toNat).all (λ k=>o.contains k)then b.ordL (o++[i.toNat]) l else 7)else 6
def Bk.ordF(b:Bk)(l:List Int):Int:=if l.length≠b.cs.length then 2 else b.ordL [] l
def H1(b all:Nat):Int:=if b=all then 1 else if b=0 then 2 else 0
def Bk.fatR(b:Bk)(r:Nat):Int:=H1 (b.all.countP λ o=>(b.ends o).1.getD r false) b.all.length
def Bk.fatC(b:Bk)(i:Nat):Int:=H1 (b.all.countP λ o=>(b.ends o).2.getD i false) b.all.length
def Bk.fatesR(b:Bk):List Int:=(range b.rs.length).map b.fatR
def Bk.fatesC(b:Bk):List Int:=(range b.cs.length).map b.fatC
def Bk.difS(b:Bk)(r:Nat)(w:Bool):List Nat:=(b.all.find? λ o=>(b.ends o).1.getD r false==w).getD []
def Bk.kept(b:Bk)(out:Nat->Bool):List Nat:=(range b.cs.length).filter λ i=>!out i
def Bk.wo(b:Bk)(out:Nat->Bool):Bk:=
 ⟨b.rs,(b.kept out).map λ i=>{ b.cas i with af:=((range (b.kept out).length).filter λ p=>QN b.A out b.cs.length i ((b.kept out).getD p 0)).map λ(p:Nat)=>(p:Int) }⟩
def ZB(n:Int):List Int->List Int
 |[]=>[n]
 |x::l=>if x<n then x::ZB n l else n::x::l
def Bk.sty(b:Bk)(s:Int×Int):Bk:=⟨b.rs,b.cs.set s.1.toNat { b.cas s.1.toNat with af:=ZB s.2 (b.cas s.1.toNat).af }⟩
def Bk.stys(b:Bk)(l:List (Int×Int)):Bk:=l.foldl Bk.sty b
def Bk.cans(b:Bk):List (Int×Int):=(range b.cs.length).flatMap λ(i:Nat)=>(((range b.cs.length).filter λ k=>k != i&&!(b.cas i).af.contains (k:Int)).map λ(k:Nat)=>((i:Int),(k:Int)))
def Ja:Bk:=⟨[⟨#[97,122,117,114]⟩,⟨#[98,111,114,97]⟩,⟨#[99,105,109,97]⟩],[⟨⟨#[111,112,112]⟩,1,[[0]],[]⟩,⟨⟨#[114,101,118]⟩,0,[[]],[]⟩,⟨⟨#[105,110,118]⟩,2,[[1]],[]⟩]⟩
def Fa:Ja.fatesR=[2,0,0]/\Ja.fatesC=[0,1,0]:=D1
def Dd:Ja.difS 1 true=[1,0,2]/\Ja.difS 1 false=[0,1,2]:=D1
def Iv:Ja.cans=[(0,1),(0,2),(1,0),(1,2),(2,0),(2,1)]:=D1
def Xw(X:List Nat)(n i:Nat):List Nat:=X.take i++replicate (n-i) 0
def jv(X:List Nat)(n:Nat):Xw X n 0=replicate n 0:=by simp[Xw]
def xV{X:List Nat}{n:Nat}(h:X.length=n):Xw X n n=X:=by simp[Xw,<- h]
def xX{X:List Nat}{n i x:Nat}(hx:X[i]?=some x)(w:X.length=n):(Xw X n i).set i x=Xw X n (i+1):=by
 obtain⟨b,rfl⟩:=List.getElem?_eq_some_iff.1 hx;unfold Xw;have f:(X.take i).length=i:=by rw[length_take];omega
 have h:n-i=(n-(i+1))+1:=O1
 rw[set_append_right _ _ O1,f,Nat.sub_self,h,replicate_succ,set_cons_zero,take_succ_eq_append_getElem b,append_assoc];rfl
def xW{X:List Nat}{n i:Nat}(f:X.length=n)(b:i<=n):(Xw X n i).length=n:=by
 unfold Xw;rw[length_append,length_take,length_replicate];omega
section
variable(out:Nat->Bool)
def XZ(i:Nat)(af:List Nat)(k:Nat):List Nat:=(range k).foldl (λ af k=>WR out af i k) af
def XE(n:Nat)(af:List Nat)(i:Nat):List Nat:=(range i).foldl (λ af i=>HV out n af i) af
def Il(i:Nat)(af:List Nat)(k:Nat):XZ out i af (k+1)=WR out (XZ out i af k) i k:=by simp[XZ,range_succ]
def Do(n i:Nat)(af:List Nat):XZ out i af n=HV out n af i:=rfl
def In(n:Nat)(af:List Nat)(i:Nat):XE out n af (i+1)=HV out n (XE out n af i) i:=by simp[XE,range_succ]
structure WB(n m:Nat)(af:List Nat):Prop where
 len:af.length=n
 lt:∀x∈af,x<2^m
variable{out}
def WB.at{n m:Nat}{af:List Nat}(h:WB n m af)(i:Nat):af.getD i 0<2^m:=by
 rw[getD_eq_getElem?_getD];cases hx:af[i]? with
 |none=>exact Nat.two_pow_pos m
 |some x=>exact h.lt x (mem_of_getElem? hx)
def WB.one{n m i k:Nat}{af:List Nat}(h:WB n m af):WB n m (WR out af i k):=by
 unfold WR;split
 .refine⟨by simpa using h.len,λ x hx=>?_⟩;rcases mem_or_eq_of_mem_set hx with hx|rfl
  .exact h.lt x hx
  .exact Nat.or_lt_two_pow (h.at i) (h.at k)
 .exact h
def WB.to{n m i:Nat}{af:List Nat}(h:WB n m af):∀k,WB n m (XZ out i af k)
 |0=>h
 |k+1=>by rw[Il];exact(WB.to h k).one
def WB.rto{n m:Nat}{af:List Nat}(h:WB n m af):∀i,WB n m (XE out n af i)
 |0=>h
 |i+1=>by
  rw[In,<- Do];exact(WB.rto h i).to n
end
section
variable(b:Bk)(out:Nat->Bool)
def Bk.kpt(j:Nat):List Nat:=(range j).filter λ i=>!out i
def Bk.kpt_all:Bk.kpt out b.cs.length=b.kept out:=rfl
variable{out}
def Bk.kpt_in{j:Nat}(h:out j=false):Bk.kpt out (j+1)=Bk.kpt out j++[j]:=by
 unfold Bk.kpt;rw[range_succ,filter_append,filter_cons_of_pos (by simp[h])];rfl
def Bk.kpt_out{j:Nat}(h:out j=true):Bk.kpt out (j+1)=Bk.kpt out j:=by
 unfold Bk.kpt;rw[range_succ,filter_append,filter_cons_of_neg (by simp[h])];simp
def Bk.kpt_len(j:Nat):(Bk.kpt out j).length<=j:=Nat.le_trans (length_filter_le _ _) S1
def Bk.kpt_lt{j k:Nat}(h:k∈Bk.kpt out j):k<j/\out k=false:=by
 unfold Bk.kpt at h;simpa using h
def Bk.kpt_nodup(j:Nat):(Bk.kpt out j).Nodup:=nodup_range.filter _
def Bk.afK(out:Nat->Bool)(w j:Nat):List Int:=((range (Bk.kpt out j).length).filter λ q=>w.testBit ((Bk.kpt out j).getD q 0)).map λ(q:Nat)=>(q:Int)
def Bk.afK_len(w j:Nat):(Bk.afK out w j).length<=j:=by
 unfold Bk.afK;rw[length_map];exact Nat.le_trans (length_filter_le _ _) (by simpa using Bk.kpt_len j)
def Bk.afK_out{w j:Nat}(h:out j=true):Bk.afK out w (j+1)=Bk.afK out w j:=by unfold Bk.afK;rw[Bk.kpt_out h]
def Bk.afK_in{w j:Nat}(h:out j=false):Bk.afK out w (j+1)=Bk.afK out w j++(if w.testBit j then[((Bk.kpt out j).length:Int)]else[]):=by
 unfold Bk.afK;rw[Bk.kpt_in h,length_append,length_cons,length_nil,range_succ,filter_append,map_append]
 have z:((range (Bk.kpt out j).length).filter λ q=>w.testBit ((Bk.kpt out j++[j]).getD q 0))=(range (Bk.kpt out j).length).filter λ q=>w.testBit ((Bk.kpt out j).getD q 0):=by
  refine filter_congr λ q f=>?_;rw[mem_range]at f;rw[getD_eq_getElem?_getD,getElem?_append_left f,<- getD_eq_getElem?_getD]
 have b:(Bk.kpt out j++[j]).getD (Bk.kpt out j).length 0=j:=by simp[getD_eq_getElem?_getD]
 rw[z];congr 1;cases hb:w.testBit j with
 |true=>rw[filter_cons_of_pos (by rw[b];exact hb)];simp
 |false=>rw[filter_cons_of_neg (by rw[b,hb];simp)];simp
def Bk.wo_cs(b:Bk)(W:List Nat)(h:∀i,i<b.cs.length->∀k,(W.getD i 0).testBit k=QN b.A out b.cs.length i k) :
  (b.wo out).cs=(b.kept out).map λ i=>{ b.cas i with af:=Bk.afK out (W.getD i 0) b.cs.length }:=by
 unfold Bk.wo;refine map_congr_left λ i w=>?_;have f:i<b.cs.length:=(Bk.kpt_lt (j:=b.cs.length) w).1;unfold Bk.afK;rw[Bk.kpt_all];simp only[h i f]
def Bk.A_length(b:Bk):b.A.length=b.cs.length:=by simp[Bk.A]
def Bk.Ok.wlW{b:Bk}(h:b.Ok)(out:Nat->Bool):∀i,i<b.cs.length->∀k,((GN out b.cs.length b.cs.length (b.A.map Z4)).getD i 0).testBit k=QN b.A out b.cs.length i k:=by
 intro i f k;have:=yV (A:=b.A) (out:=out) h.low h.lo (i:=i) (k:=k) (by rw[b.A_length];exact f);rw[b.A_length]at this;exact this
end
section
variable{A:List (List Nat)}
def IC{two:Nat}(b:∀i,i<A.length->∀k∈Jf A i,k<A.length)(ρ:Nat->Nat)(h:∀i,i<A.length->∀k∈Jf A i,ρ k<ρ i):∀(s i:Nat),i<A.length->WC A two s i=true->ρ two<ρ i
 |0,_,_,hm=>by simp[WC]at hm
 |s+1,i,f,hm=>by
  simp only[WC,any_eq_true,Bool.or_eq_true,beq_iff_eq]at hm;obtain⟨k,w,hm⟩:=hm;have h1:=h i f k w;rcases hm with rfl|hm
  .exact h1
  .exact Nat.lt_trans (IC b ρ h s k (b i f k w) hm) h1
def jA(b:∀i,i<A.length->∀k∈Jf A i,k<A.length)(ρ:Nat->Nat)(h:∀i,i<A.length->∀k∈Jf A i,ρ k<ρ i):Wy A=false:=by
 rw[vK b];cases hl:Gu A with
 |false=>rfl
 |true=>
  unfold Gu at hl;rw[any_eq_true]at hl;obtain⟨i,f,hm⟩:=hl;exact absurd (IC b ρ h _ i (by simpa using f) hm) (Nat.lt_irrefl _)
def kZ(h:Wy A=false):∃ρ:Nat->Nat,∀i,i<A.length->∀k∈Jf A i,ρ k<ρ i:=by
 obtain⟨L,hL,f⟩:=Du h;refine⟨λ x=>L.length-L.idxOf x,λ i H k I=>?_⟩;obtain⟨X,Y,e⟩:=append_of_mem (f i H);have b:=hL.aft X Y i e k I;have G:=hL.nod;rw[e,nodup_append]at G;obtain⟨K,F,w⟩:=G;have z:i∉X:=λ hm=>w i hm i S1 rfl;have B:k∉X:=λ hm=>w k hm k (by simp[b]) rfl;have E:k≠i:=λ e'=>(nodup_cons.1 F).1 (e'▸b)
 have M:L.idxOf i=X.length:=by
  rw[e,idxOf_append,if_neg z];simp
 have N:L.idxOf k=X.length+(Y.idxOf k+1):=by
  rw[e,idxOf_append,if_neg B,idxOf_cons,show(i==k)=false by simpa using E.symm];simp only[cond_false];omega
 have P:Y.idxOf k<Y.length:=idxOf_lt_length_of_mem b;have Q:L.length=X.length+(Y.length+1):=by rw[e];simp
 show L.length-L.idxOf k<L.length-L.idxOf i;omega
def Io{out:Nat->Bool}(f:∀i,i<A.length->∀k∈Jf A i,k<A.length)(ρ:Nat->Nat)(h:∀i,i<A.length->∀k∈Jf A i,ρ k<ρ i):∀(s i k:Nat),i<A.length->QN A out s i k=true->ρ k<ρ i
 |0,i,k,b,hm=>h i b k (by simpa[QN]using hm)
 |s+1,i,k,b,hm=>by
  rcases VN.1 hm with hm|⟨o,h1,h2,w⟩
  .exact h i b k (by simpa using hm)
  .exact Nat.lt_trans (Io f ρ h s o k (f i b o h1) w) (h i b o h1)
end
def SO{b:Int}:∀{l:List Int}{p:Option Int},l.Pairwise (· < ·)->(∀x∈l,0<=x/\x<b)->(∀m,p=some m->∀x∈l,m<x)->QV b p l=0
 |[],_,_,_,_=>rfl
 |n::l,p,h,hb,hm=>by
  obtain⟨h1,h2⟩:=pairwise_cons.1 h;have w:=hb n S1;have f:=SO (b:=b) (p:=some n) h2 (λ x hx=>hb x (by simp[hx])) λ m e x hx=>by cases e;exact h1 x hx
  rw[Pq,if_pos (by simp only[QP,Bool.and_eq_true,decide_eq_true_eq];omega)];cases p with
  |none=>exact f
  |some m=>
   have:=hm m rfl n S1;simp only;rw[if_neg O1];exact f
def Bk.wo_nc(b:Bk)(out:Nat->Bool):(b.wo out).cs.length=(b.kept out).length:=by simp[Bk.wo]
def Bk.wo_aft(b:Bk)(out:Nat->Bool){p:Nat}(f:p<(b.kept out).length):Jf (b.wo out).A p=(range (b.kept out).length).filter λ q=>QN b.A out b.cs.length ((b.kept out).getD p 0) ((b.kept out).getD q 0):=by
 have hx:(b.wo out).cs[p]?=some { b.cas ((b.kept out).getD p 0)with af:=((range (b.kept out).length).filter λ q=>QN b.A out b.cs.length ((b.kept out).getD p 0) ((b.kept out).getD q 0)).map λ(q:Nat)=>(q:Int) }:=by
  unfold Bk.wo;simp[getD_eq_getElem?_getD,f]
 unfold Jf
 have h2:(b.wo out).A[p]?=some ((((range (b.kept out).length).filter λ q=>QN b.A out b.cs.length ((b.kept out).getD p 0) ((b.kept out).getD q 0)).map λ(q:Nat)=>(q:Int)).map Int.toNat):=by
  unfold Bk.A;rw[getElem?_map];show Option.map _ (b.wo out).cs[p]?=_;rw[hx];rfl
 rw[getD_eq_getElem?_getD,h2,Option.getD_some,map_map];have:(Int.toNat ∘ λ(p:Nat)=>(p:Int))=id:=by funext p;simp
 rw[this,map_id]
def Bk.Ok.wo{b:Bk}(h:b.Ok)(out:Nat->Bool):(b.wo out).Ok:=by
 have P:(b.kept out).length<=b.cs.length:=Bk.kpt_len (out:=out) b.cs.length;have E:=b.wo_nc out;have N:=h.nc;have I:∀i∈b.kept out,i<b.cs.length:=λ i f=>(Bk.kpt_lt (j:=b.cs.length) f).1
 have F:∀i∈b.kept out,b.cas i∈b.cs:=λ i f=>by
  simp only[Bk.cas,getD_eq_getElem?_getD,getElem?_eq_getElem (I i f),Option.getD_some];exact getElem_mem _
 have z:∀c∈(b.wo out).cs,∃i∈b.kept out,c={ b.cas i with af:=((range (b.kept out).length).filter λ p=>QN b.A out b.cs.length i ((b.kept out).getD p 0)).map λ(p:Nat)=>(p:Int) }:=by
  intro c w;obtain⟨i,f,rfl⟩:=mem_map.1 w;exact⟨i,f,rfl⟩
 have H:∀i,∀n∈((range (b.kept out).length).filter λ p=>QN b.A out b.cs.length i ((b.kept out).getD p 0)).map (λ(p:Nat)=>(p:Int)),0<=n/\n<(b.wo out).nc:=by
  intro i n M;obtain⟨p,B,rfl⟩:=mem_map.1 M;have:=(mem_filter.1 B).1;rw[mem_range]at this;unfold Bk.nc;rw[E];omega
 refine⟨h.nr,O1,λ c w=>?_,λ c w=>?_,λ c w=>?_,λ c w=>?_,λ c w=>?_,?_⟩
 .obtain⟨i,f,rfl⟩:=z c w;exact h.ag (b.cas i) (F i f)
 .obtain⟨i,f,rfl⟩:=z c w;exact h.gl (b.cas i) (F i f)
 .obtain⟨i,f,rfl⟩:=z c w;exact h.gs (b.cas i) (F i f)
 .obtain⟨i,f,rfl⟩:=z c w;refine SO ?_ (H i) (λ m e=>by cases e);rw[pairwise_map];refine Pairwise.filter _ ?_;refine Pairwise.imp (R:=(· < ·)) (λ h=>O1) pairwise_lt_range
 .obtain⟨i,f,rfl⟩:=z c w;exact H i
 .obtain⟨ρ,hρ⟩:=kZ h.lo;have G:(b.wo out).A.length=(b.kept out).length:=by rw[Bk.A_length,E]
  have L:∀p,p<(b.kept out).length->(b.kept out).getD p 0<b.A.length:=λ p B=>by
   rw[Bk.A_length];refine I _ ?_;simp only[getD_eq_getElem?_getD,getElem?_eq_getElem B,Option.getD_some];exact getElem_mem _
  refine jA (λ p B q K=>?_) (λ p=>ρ ((b.kept out).getD p 0)) λ p B q K=>?_
  .rw[G]at B ⊢;rw[b.wo_aft out B,mem_filter,mem_range]at K;exact K.1
  .rw[G]at B;rw[b.wo_aft out B,mem_filter,mem_range]at K;exact Io h.low ρ hρ _ _ _ (L p B) K.2
end Go.TM

