/- Lemmas. No conditions. -/
import Derived.Test.YtcakpkianonbkaaGreatDoorB34
set_option linter.all false
open List
namespace Go.TM
structure Cs where
 nm:ByteArray
 ag:Int
 gs:List (List Int)
 af:List Int
structure Bk where
 rs:List ByteArray
 cs:List Cs
structure BH where
 ra:Option Addr
 rl:Nat
 rc:Nat
 ca:Option Addr
 cl:Nat
 cc:Nat
abbrev BH.v(h:BH):Value:=.agg #[.slice h.ra h.rl h.rc,.slice h.ca h.cl h.cc]
variable{T:Type}
def Wj(U:Qa T)(a:Option Addr)(len:Nat)(ls:List (List Int)):Prop:=Qx U a len 1 ls λ l vs=>∃a' len' cap',vs=[.slice a' len' cap']/\Z3 U a' len' l/\len'<2^60
def Wj.lg{U U':Qa T}{a:Option Addr}{len:Nat}{ls:List (List Int)}(h:Wj U a len ls)(hl:U.lg U'):Wj U' a len ls:=
 Qx.lg h hl λ _ _⟨a',len',cap',e,h1,h2⟩=>⟨a',len',cap',e,h1.lg hl,h2⟩
def Q1z(U:Qa T)(c:Cs)(vs:List Value):Prop:=
 ∃ga gl gc aa al ac,vs=[.string c.nm,.int .i64 c.ag,.slice ga gl gc,.slice aa al ac]/\Wj U ga gl c.gs/\gl<2^60/\Z3 U aa al c.af/\al<2^60
def Q1z.lg{U U':Qa T}{c:Cs}{vs:List Value}(h:Q1z U c vs)(hl:U.lg U'):Q1z U' c vs:=
 let ⟨ga,gl,gc,aa,al,ac,e,h1,h2,h3,h4⟩:=h;⟨ga,gl,gc,aa,al,ac,e,h1.lg hl,h2,h3.lg hl,h4⟩
structure Zt(U:Qa T)(h:BH)(b:Bk):Prop where
 rs:Qx U h.ra h.rl 1 b.rs λ s vs=>vs=[.string s]
 cs:Qx U h.ca h.cl 4 b.cs (Q1z U)
 rl:h.rl<2^60
 cl:h.cl<2^60
 rn:∀s∈b.rs,s.size<2^60
 cn:∀c∈b.cs,c.nm.size<2^60
def Zt.lg{U U':Qa T}{h:BH}{b:Bk}(k:Zt U h b)(hl:U.lg U'):Zt U' h b:=
 ⟨k.rs.lg hl λ _ _ h=>h,k.cs.lg hl λ _ _ h=>h.lg hl,k.rl,k.cl,k.rn,k.cn⟩
instance decBA:DecidableEq ByteArray:=λ a b=>decidable_of_iff (a.data=b.data) ⟨λ h=>by cases a;cases b;simp_all,λ h=>by rw[h]⟩
def Qb0(b:Int):Option Int->List Int->Int
 |_,[]=>0
 |p,n::l=>if W1 n 0 (b-1)then(match p with|some m=>if n<=m then 7 else Qb0 b (some n) l|none=>Qb0 b (some n) l)else 6
def Qf5(b:Int)(p:Option Int)(n:Int)(l:List Int):Qb0 b p (n::l)=if W1 n 0 (b-1)then(match p with|some m=>if n<=m then 7 else Qb0 b (some n) l|none=>Qb0 b (some n) l)else 6:=rfl
def Qg3(l:List ByteArray)(s:ByteArray):Bool:=l.any λ x=>decide (x=s)
def Ztn{l:List ByteArray}{s:ByteArray}:Qg3 l s=true↔s∈l:=by
 simp only[Qg3,any_eq_true,decide_eq_true_eq];exact⟨λ⟨x,h,e⟩=>e▸h,λ h=>⟨s,h,rfl⟩⟩
def Zja(nameB:ByteArray->Bool):List ByteArray->List ByteArray->Int
 |_,[]=>0
 |seen,s::l=>if nameB s then(if Qg3 seen s then 5 else Zja nameB (seen++[s]) l)else 4
def Q5y(nr:Int):List (List Int)->Int
 |[]=>0
 |g::l=>if g.length > 3 then 2 else if Qb0 nr none g=0 then Q5y nr l else Qb0 nr none g
def Q04(nr:Int)(g:List (List Int)):Int:=if g.length > 3 then 2 else Q5y nr g
def Q5j(nameB:ByteArray->Bool)(nr nc:Int):List ByteArray->List Cs->Int
 |_,[]=>0
 |seen,c::l=>if nameB c.nm then(if Qg3 seen c.nm then 5 else
   if W1 c.ag 0 (nr-1)then(if Q04 nr c.gs=0 then(if Qb0 nc none c.af=0 then Q5j nameB nr nc (seen++[c.nm]) l else Qb0 nc none c.af)else Q04 nr c.gs)else 6)else 4
def Bk.nr(b:Bk):Int:=b.rs.length
def Bk.nc(b:Bk):Int:=b.cs.length
def Bk.A(b:Bk):List (List Nat):=b.cs.map λ c=>c.af.map Int.toNat
def Bk.rsF(nameB:ByteArray->Bool)(b:Bk):Int:=if b.rs.length > 6 then 2 else Zja nameB [] b.rs
def Bk.csF(nameB:ByteArray->Bool)(b:Bk):Int:=if b.cs.length > 5 then 2 else Q5j nameB b.nr b.nc [] b.cs
def Bk.flaw(nameB:ByteArray->Bool)(b:Bk):Int:=if b.rsF nameB=0 then(if b.csF nameB=0 then(if Wz b.A then 8 else 0)else b.csF nameB)else b.rsF nameB
def Qri{b:Int}:∀{l:List Int}{p:Option Int},Qb0 b p l=0->∀n∈l,0<=n/\n<b
 |[],_,_,n,hn=>by cases hn
 |x::l,p,h,n,hn=>by
  rw[Qf5]at h;by_cases hb:W1 x 0 (b-1)=true
  .rw[if_pos hb]at h
   have hx:0<=x/\x<b:=by
    simp only[W1,Bool.and_eq_true,decide_eq_true_eq]at hb;omega
   have hr:Qb0 b (some x) l=0:=by
    cases p with
    |none=>exact h
    |some m=>
     simp only at h;split at h
     .cases h
     .exact h
   rcases mem_cons.1 hn with rfl|hn
   .exact hx
   .exact Qri hr n hn
  .rw[if_neg hb]at h;cases h
def Q0z{nameB:ByteArray->Bool}{nr nc:Int}:∀{l:List Cs}{seen:List ByteArray},Q5j nameB nr nc seen l=0->∀c∈l,(0<=c.ag/\c.ag<nr)/\Q04 nr c.gs=0/\Qb0 nc none c.af=0
 |[],_,_,c,hc=>by cases hc
 |x::l,seen,h,c,hc=>by
  simp only[Q5j]at h;split at h
  .split at h
   .cases h
   .split at h
    .rename_i hag;split at h
     .rename_i hg;split at h
      .rename_i hr;rcases mem_cons.1 hc with rfl|hc
       .simp only[W1,Bool.and_eq_true,decide_eq_true_eq]at hag;exact⟨by omega,hg,hr⟩
       .exact Q0z h c hc
      .rename_i hr;exact absurd h hr
     .rename_i hg;exact absurd h hg
    .cases h
  .cases h
def Zfb{nr:Int}:∀{l:List (List Int)},Q5y nr l=0->∀g∈l,g.length<=3/\Qb0 nr none g=0
 |[],_,g,hg=>by cases hg
 |x::l,h,g,hg=>by
  simp only[Q5y]at h;split at h
  .cases h
  .split at h
   .rename_i hr;rcases mem_cons.1 hg with rfl|hg
    .exact⟨by omega,hr⟩
    .exact Zfb h g hg
   .rename_i hr;exact absurd h hr
structure Bk.Ok(b:Bk):Prop where
 nr:b.rs.length<=6
 nc:b.cs.length<=5
 ag:∀c∈b.cs,0<=c.ag/\c.ag<b.nr
 gl:∀c∈b.cs,c.gs.length<=3
 gs:∀c∈b.cs,∀g∈c.gs,g.length<=3/\∀n∈g,0<=n/\n<b.nr
 ri:∀c∈b.cs,Qb0 b.nc none c.af=0
 af:∀c∈b.cs,∀n∈c.af,0<=n/\n<b.nc
 lo:Wz b.A=false
def Bk.ok_of{nameB:ByteArray->Bool}{b:Bk}(h:b.flaw nameB=0):b.Ok:=by
 unfold Bk.flaw at h;split at h
 .rename_i h1;split at h
  .rename_i h2;split at h
   .cases h
   .rename_i h3;unfold Bk.rsF at h1;unfold Bk.csF at h2;split at h1
    .cases h1
    .split at h2
     .cases h2
     .have hin:=Q0z h2
      have hg:∀c∈b.cs,c.gs.length<=3/\∀g∈c.gs,g.length<=3/\Qb0 b.nr none g=0:=by
       intro c hc;have:=(hin c hc).2.1;unfold Q04 at this;split at this
       .cases this
       .exact⟨by omega,Zfb this⟩
      exact⟨by omega,by omega,λ c hc=>(hin c hc).1,λ c hc=>(hg c hc).1,λ c hc g hgm=>⟨((hg c hc).2 g hgm).1,Qri ((hg c hc).2 g hgm).2⟩,λ c hc=>(hin c hc).2.2,λ c hc=>Qri (hin c hc).2.2,by simpa using h3⟩
  .rename_i h2;exact absurd h h2
 .rename_i h1;exact absurd h h1
def Bk.Ok.low{b:Bk}(h:b.Ok):∀i,i<b.A.length->∀k∈Ji b.A i,k<b.A.length:=by
 intro i hi k hk;simp only[Bk.A,length_map]at hi ⊢;simp only[Ji,Bk.A,getD_eq_getElem?_getD,getElem?_map,getElem?_eq_getElem hi,Option.map_some,Option.getD_some,mem_map]at hk;obtain⟨n,hn,rfl⟩:=hk;have:=h.af _ (getElem_mem hi) n hn;unfold Bk.nc at this;omega
instance:Inhabited Cs:=⟨⟨⟨#[]⟩,0,[],[]⟩⟩
def Bk.cas(b:Bk)(i:Nat):Cs:=b.cs.getD i default
def Zrw(gs:List (List Int))(s:List Bool):Bool:=gs.any λ g=>g.all λ r=>s.getD r.toNat false
def Bk.stp(b:Bk)(x:List Bool×List Bool)(i:Nat):List Bool×List Bool:=if Zrw (b.cas i).gs x.1 then(x.1.set (b.cas i).ag.toNat false,x.2.set i true)else x
def Bk.ini(b:Bk):List Bool×List Bool:=(replicate b.rs.length true,replicate b.cs.length false)
def Bk.ends(b:Bk)(o:List Nat):List Bool×List Bool:=o.foldl b.stp b.ini
def Bk.ends_snoc(b:Bk)(o:List Nat)(i:Nat):b.ends (o++[i])=b.stp (b.ends o) i:=by simp[Bk.ends]
def Bk.can(b:Bk)(o:List Nat)(i:Nat):Bool:=!o.contains i&&(Ji b.A i).all λ k=>o.contains k
def Bk.ords(b:Bk):Nat->List Nat->List (List Nat)
 |0,o=>[o]
 |k+1,o=>(range b.cs.length).flatMap λ i=>if b.can o i then b.ords k (o++[i])else[]
def Bk.all(b:Bk):List (List Nat):=b.ords b.cs.length []
def Bk.ordL(b:Bk):List Nat->List Int->Int
 |_,[]=>0
 |o,i::l=>if W1 i 0 (b.nc-1)then(if i.toNat∈o then 5 else if(Ji b.A i.toNat).all (λ k=>o.contains k)then b.ordL (o++[i.toNat]) l else 7)else 6
def Bk.ordF(b:Bk)(l:List Int):Int:=if l.length≠b.cs.length then 2 else b.ordL [] l
def Q6n(so all:Nat):Int:=if so=all then 1 else if so=0 then 2 else 0
def Bk.fatR(b:Bk)(r:Nat):Int:=Q6n (b.all.countP λ o=>(b.ends o).1.getD r false) b.all.length
def Bk.fatC(b:Bk)(i:Nat):Int:=Q6n (b.all.countP λ o=>(b.ends o).2.getD i false) b.all.length
def Bk.fatesR(b:Bk):List Int:=(range b.rs.length).map b.fatR
def Bk.fatesC(b:Bk):List Int:=(range b.cs.length).map b.fatC
def Bk.difS(b:Bk)(r:Nat)(w:Bool):List Nat:=(b.all.find? λ o=>(b.ends o).1.getD r false==w).getD []
def Bk.kept(b:Bk)(out:Nat->Bool):List Nat:=(range b.cs.length).filter λ i=>!out i
def Bk.wo(b:Bk)(out:Nat->Bool):Bk:=
 ⟨b.rs,(b.kept out).map λ i=>{ b.cas i with af:=((range (b.kept out).length).filter λ p=>Qam b.A out b.cs.length i ((b.kept out).getD p 0)).map λ(p:Nat)=>(p:Int) }⟩
def Qcz(n:Int):List Int->List Int
 |[]=>[n]
 |x::l=>if x<n then x::Qcz n l else n::x::l
def Bk.sty(b:Bk)(s:Int×Int):Bk:=⟨b.rs,b.cs.set s.1.toNat { b.cas s.1.toNat with af:=Qcz s.2 (b.cas s.1.toNat).af }⟩
def Bk.stys(b:Bk)(l:List (Int×Int)):Bk:=l.foldl Bk.sty b
def Bk.cans(b:Bk):List (Int×Int):=(range b.cs.length).flatMap λ(i:Nat)=>(((range b.cs.length).filter λ k=>k != i&&!(b.cas i).af.contains (k:Int)).map λ(k:Nat)=>((i:Int),(k:Int)))
def Je:Bk:=⟨[⟨#[97,122,117,114]⟩,⟨#[98,111,114,97]⟩,⟨#[99,105,109,97]⟩],[⟨⟨#[111,112,112]⟩,1,[[0]],[]⟩,⟨⟨#[114,101,118]⟩,0,[[]],[]⟩,⟨⟨#[105,110,118]⟩,2,[[1]],[]⟩]⟩
def Qvk:Je.fatesR=[2,0,0]/\Je.fatesC=[0,1,0]:=by decide
def Q5t:Je.difS 1 true=[1,0,2]/\Je.difS 1 false=[0,1,2]:=by decide
def Qza:Je.cans=[(0,1),(0,2),(1,0),(1,2),(2,0),(2,1)]:=by decide
def Qjr(X:List Nat)(n i:Nat):List Nat:=X.take i++replicate (n-i) 0
def Zds(X:List Nat)(n:Nat):Qjr X n 0=replicate n 0:=by simp[Qjr]
def Zi1{X:List Nat}{n:Nat}(h:X.length=n):Qjr X n n=X:=by simp[Qjr,<- h]
def Zi3{X:List Nat}{n i x:Nat}(hx:X[i]?=some x)(hn:X.length=n):(Qjr X n i).set i x=Qjr X n (i+1):=by
 obtain⟨hlt,rfl⟩:=List.getElem?_eq_some_iff.1 hx;unfold Qjr;have e1:(X.take i).length=i:=by rw[length_take];omega
 have e2:n-i=(n-(i+1))+1:=by omega
 rw[set_append_right _ _ (by omega),e1,Nat.sub_self,e2,replicate_succ,set_cons_zero,take_succ_eq_append_getElem hlt,append_assoc];rfl
def Zi2{X:List Nat}{n i:Nat}(hn:X.length=n)(hi:i<=n):(Qjr X n i).length=n:=by
 unfold Qjr;rw[length_append,length_take,length_replicate];omega
section
variable(out:Nat->Bool)
def Q6x(i:Nat)(af:List Nat)(k:Nat):List Nat:=(range k).foldl (λ af k=>wl1 out af i k) af
def Qxk(n:Nat)(af:List Nat)(i:Nat):List Nat:=(range i).foldl (λ af i=>wlI out n af i) af
def Qzv(i:Nat)(af:List Nat)(k:Nat):Q6x out i af (k+1)=wl1 out (Q6x out i af k) i k:=by simp[Q6x,range_succ]
def Q6y(n i:Nat)(af:List Nat):Q6x out i af n=wlI out n af i:=rfl
def Qzx(n:Nat)(af:List Nat)(i:Nat):Qxk out n af (i+1)=wlI out n (Qxk out n af i) i:=by simp[Qxk,range_succ]
structure WB(n m:Nat)(af:List Nat):Prop where
 len:af.length=n
 lt:∀x∈af,x<2^m
variable{out}
def WB.at{n m:Nat}{af:List Nat}(h:WB n m af)(i:Nat):af.getD i 0<2^m:=by
 rw[getD_eq_getElem?_getD];cases hx:af[i]? with
 |none=>exact Nat.two_pow_pos m
 |some x=>exact h.lt x (mem_of_getElem? hx)
def WB.one{n m i k:Nat}{af:List Nat}(h:WB n m af):WB n m (wl1 out af i k):=by
 unfold wl1;split
 .refine⟨by simpa using h.len,λ x hx=>?_⟩;rcases mem_or_eq_of_mem_set hx with hx|rfl
  .exact h.lt x hx
  .exact Nat.or_lt_two_pow (h.at i) (h.at k)
 .exact h
def WB.to{n m i:Nat}{af:List Nat}(h:WB n m af):∀k,WB n m (Q6x out i af k)
 |0=>h
 |k+1=>by rw[Qzv];exact(WB.to h k).one
def WB.rto{n m:Nat}{af:List Nat}(h:WB n m af):∀i,WB n m (Qxk out n af i)
 |0=>h
 |i+1=>by
  rw[Qzx,<- Q6y];exact(WB.rto h i).to n
end
section
variable(b:Bk)(out:Nat->Bool)
def Bk.kpt(j:Nat):List Nat:=(range j).filter λ i=>!out i
def Bk.kpt_all:Bk.kpt out b.cs.length=b.kept out:=rfl
variable{out}
def Bk.kpt_in{j:Nat}(h:out j=false):Bk.kpt out (j+1)=Bk.kpt out j++[j]:=by
 unfold Bk.kpt;rw[range_succ,filter_append,filter_cons_of_pos (by simp[h])];rfl
def Bk.kpt_out{j:Nat}(h:out j=true):Bk.kpt out (j+1)=Bk.kpt out j:=by
 unfold Bk.kpt;rw[range_succ,filter_append,filter_cons_of_neg (by simp[h])];simp
def Bk.kpt_len(j:Nat):(Bk.kpt out j).length<=j:=Nat.le_trans (length_filter_le _ _) (by simp)
def Bk.kpt_lt{j k:Nat}(h:k∈Bk.kpt out j):k<j/\out k=false:=by
 unfold Bk.kpt at h;simpa using h
def Bk.kpt_nodup(j:Nat):(Bk.kpt out j).Nodup:=nodup_range.filter _
def Bk.afK(out:Nat->Bool)(w j:Nat):List Int:=((range (Bk.kpt out j).length).filter λ q=>w.testBit ((Bk.kpt out j).getD q 0)).map λ(q:Nat)=>(q:Int)
def Bk.afK_len(w j:Nat):(Bk.afK out w j).length<=j:=by
 unfold Bk.afK;rw[length_map];exact Nat.le_trans (length_filter_le _ _) (by simpa using Bk.kpt_len j)
def Bk.afK_out{w j:Nat}(h:out j=true):Bk.afK out w (j+1)=Bk.afK out w j:=by unfold Bk.afK;rw[Bk.kpt_out h]
def Bk.afK_in{w j:Nat}(h:out j=false):Bk.afK out w (j+1)=Bk.afK out w j++(if w.testBit j then[((Bk.kpt out j).length:Int)]else[]):=by
 unfold Bk.afK;rw[Bk.kpt_in h,length_append,length_cons,length_nil,range_succ,filter_append,map_append]
 have e1:((range (Bk.kpt out j).length).filter λ q=>w.testBit ((Bk.kpt out j++[j]).getD q 0))=(range (Bk.kpt out j).length).filter λ q=>w.testBit ((Bk.kpt out j).getD q 0):=by
  refine filter_congr λ q hq=>?_;rw[mem_range]at hq;rw[getD_eq_getElem?_getD,getElem?_append_left hq,<- getD_eq_getElem?_getD]
 have e2:(Bk.kpt out j++[j]).getD (Bk.kpt out j).length 0=j:=by simp[getD_eq_getElem?_getD]
 rw[e1];congr 1;cases hb:w.testBit j with
 |true=>rw[filter_cons_of_pos (by rw[e2];exact hb)];simp
 |false=>rw[filter_cons_of_neg (by rw[e2,hb];simp)];simp
def Bk.wo_cs(b:Bk)(W:List Nat)(hW:∀i,i<b.cs.length->∀k,(W.getD i 0).testBit k=Qam b.A out b.cs.length i k) :
  (b.wo out).cs=(b.kept out).map λ i=>{ b.cas i with af:=Bk.afK out (W.getD i 0) b.cs.length }:=by
 unfold Bk.wo;refine map_congr_left λ i hi=>?_;have hi':i<b.cs.length:=(Bk.kpt_lt (j:=b.cs.length) hi).1;unfold Bk.afK;rw[Bk.kpt_all];simp only[hW i hi']
def Bk.A_length(b:Bk):b.A.length=b.cs.length:=by simp[Bk.A]
def Bk.Ok.wlW{b:Bk}(h:b.Ok)(out:Nat->Bool):∀i,i<b.cs.length->∀k,((wlN out b.cs.length b.cs.length (b.A.map Ja)).getD i 0).testBit k=Qam b.A out b.cs.length i k:=by
 intro i hi k;have:=Zsz (A:=b.A) (out:=out) h.low h.lo (i:=i) (k:=k) (by rw[b.A_length];exact hi);rw[b.A_length]at this;exact this
end
section
variable{A:List (List Nat)}
def Qzh{two:Nat}(hA:∀i,i<A.length->∀k∈Ji A i,k<A.length)(ρ:Nat->Nat)(h:∀i,i<A.length->∀k∈Ji A i,ρ k<ρ i):∀(s i:Nat),i<A.length->Qdp A two s i=true->ρ two<ρ i
 |0,_,_,hm=>by simp[Qdp]at hm
 |s+1,i,hi,hm=>by
  simp only[Qdp,any_eq_true,Bool.or_eq_true,beq_iff_eq]at hm;obtain⟨k,hk,hm⟩:=hm;have h1:=h i hi k hk;rcases hm with rfl|hm
  .exact h1
  .exact Nat.lt_trans (Qzh hA ρ h s k (hA i hi k hk) hm) h1
def Zd2(hA:∀i,i<A.length->∀k∈Ji A i,k<A.length)(ρ:Nat->Nat)(h:∀i,i<A.length->∀k∈Ji A i,ρ k<ρ i):Wz A=false:=by
 rw[Zn4 hA];cases hl:Qos A with
 |false=>rfl
 |true=>
  unfold Qos at hl;rw[any_eq_true]at hl;obtain⟨i,hi,hm⟩:=hl;exact absurd (Qzh hA ρ h _ i (by simpa using hi) hm) (Nat.lt_irrefl _)
def Zqr(h:Wz A=false):∃ρ:Nat->Nat,∀i,i<A.length->∀k∈Ji A i,ρ k<ρ i:=by
 obtain⟨L,hL,hall⟩:=Q6e h;refine⟨λ x=>L.length-L.idxOf x,λ i hi k hk=>?_⟩;obtain⟨X,Y,e⟩:=append_of_mem (hall i hi);have hkY:=hL.aft X Y i e k hk;have hn:=hL.nod;rw[e,nodup_append]at hn;obtain⟨hn1,hn2,hn3⟩:=hn;have hiX:i∉X:=λ hm=>hn3 i hm i (by simp) rfl;have hkX:k∉X:=λ hm=>hn3 k hm k (by simp[hkY]) rfl;have hki:k≠i:=λ e'=>(nodup_cons.1 hn2).1 (e'▸hkY)
 have e1:L.idxOf i=X.length:=by
  rw[e,idxOf_append,if_neg hiX];simp
 have e2:L.idxOf k=X.length+(Y.idxOf k+1):=by
  rw[e,idxOf_append,if_neg hkX,idxOf_cons,show(i==k)=false by simpa using hki.symm];simp only[cond_false];omega
 have e3:Y.idxOf k<Y.length:=idxOf_lt_length_of_mem hkY;have e4:L.length=X.length+(Y.length+1):=by rw[e];simp
 show L.length-L.idxOf k<L.length-L.idxOf i;omega
def Qy2{out:Nat->Bool}(hA:∀i,i<A.length->∀k∈Ji A i,k<A.length)(ρ:Nat->Nat)(h:∀i,i<A.length->∀k∈Ji A i,ρ k<ρ i):∀(s i k:Nat),i<A.length->Qam A out s i k=true->ρ k<ρ i
 |0,i,k,hi,hm=>h i hi k (by simpa[Qam]using hm)
 |s+1,i,k,hi,hm=>by
  rcases Qiy.1 hm with hm|⟨o,h1,h2,h3⟩
  .exact h i hi k (by simpa using hm)
  .exact Nat.lt_trans (Qy2 hA ρ h s o k (hA i hi o h1) h3) (h i hi o h1)
end
def Q1j{b:Int}:∀{l:List Int}{p:Option Int},l.Pairwise (· < ·)->(∀x∈l,0<=x/\x<b)->(∀m,p=some m->∀x∈l,m<x)->Qb0 b p l=0
 |[],_,_,_,_=>rfl
 |n::l,p,hp,hb,hm=>by
  obtain⟨h1,h2⟩:=pairwise_cons.1 hp;have h3:=hb n (by simp);have hr:=Q1j (b:=b) (p:=some n) h2 (λ x hx=>hb x (by simp[hx])) λ m e x hx=>by cases e;exact h1 x hx
  rw[Qf5,if_pos (by simp only[W1,Bool.and_eq_true,decide_eq_true_eq];omega)];cases p with
  |none=>exact hr
  |some m=>
   have:=hm m rfl n (by simp);simp only;rw[if_neg (by omega)];exact hr
def Bk.wo_nc(b:Bk)(out:Nat->Bool):(b.wo out).cs.length=(b.kept out).length:=by simp[Bk.wo]
def Bk.wo_aft(b:Bk)(out:Nat->Bool){p:Nat}(hp:p<(b.kept out).length):Ji (b.wo out).A p=(range (b.kept out).length).filter λ q=>Qam b.A out b.cs.length ((b.kept out).getD p 0) ((b.kept out).getD q 0):=by
 have hx:(b.wo out).cs[p]?=some { b.cas ((b.kept out).getD p 0)with af:=((range (b.kept out).length).filter λ q=>Qam b.A out b.cs.length ((b.kept out).getD p 0) ((b.kept out).getD q 0)).map λ(q:Nat)=>(q:Int) }:=by
  unfold Bk.wo;simp[getD_eq_getElem?_getD,hp]
 unfold Ji
 have h2:(b.wo out).A[p]?=some ((((range (b.kept out).length).filter λ q=>Qam b.A out b.cs.length ((b.kept out).getD p 0) ((b.kept out).getD q 0)).map λ(q:Nat)=>(q:Int)).map Int.toNat):=by
  unfold Bk.A;rw[getElem?_map];show Option.map _ (b.wo out).cs[p]?=_;rw[hx];rfl
 rw[getD_eq_getElem?_getD,h2,Option.getD_some,map_map];have:(Int.toNat ∘ λ(p:Nat)=>(p:Int))=id:=by funext p;simp
 rw[this,map_id]
def Bk.Ok.wo{b:Bk}(h:b.Ok)(out:Nat->Bool):(b.wo out).Ok:=by
 have hk:(b.kept out).length<=b.cs.length:=Bk.kpt_len (out:=out) b.cs.length;have hlen:=b.wo_nc out;have hnc:=h.nc;have hkl:∀i∈b.kept out,i<b.cs.length:=λ i hi=>(Bk.kpt_lt (j:=b.cs.length) hi).1
 have hcm:∀i∈b.kept out,b.cas i∈b.cs:=λ i hi=>by
  simp only[Bk.cas,getD_eq_getElem?_getD,getElem?_eq_getElem (hkl i hi),Option.getD_some];exact getElem_mem _
 have hof:∀c∈(b.wo out).cs,∃i∈b.kept out,c={ b.cas i with af:=((range (b.kept out).length).filter λ p=>Qam b.A out b.cs.length i ((b.kept out).getD p 0)).map λ(p:Nat)=>(p:Int) }:=by
  intro c hc;obtain⟨i,hi,rfl⟩:=mem_map.1 hc;exact⟨i,hi,rfl⟩
 have hin:∀i,∀n∈((range (b.kept out).length).filter λ p=>Qam b.A out b.cs.length i ((b.kept out).getD p 0)).map (λ(p:Nat)=>(p:Int)),0<=n/\n<(b.wo out).nc:=by
  intro i n hn;obtain⟨p,hp,rfl⟩:=mem_map.1 hn;have:=(mem_filter.1 hp).1;rw[mem_range]at this;unfold Bk.nc;rw[hlen];omega
 refine⟨h.nr,by omega,λ c hc=>?_,λ c hc=>?_,λ c hc=>?_,λ c hc=>?_,λ c hc=>?_,?_⟩
 .obtain⟨i,hi,rfl⟩:=hof c hc;exact h.ag (b.cas i) (hcm i hi)
 .obtain⟨i,hi,rfl⟩:=hof c hc;exact h.gl (b.cas i) (hcm i hi)
 .obtain⟨i,hi,rfl⟩:=hof c hc;exact h.gs (b.cas i) (hcm i hi)
 .obtain⟨i,hi,rfl⟩:=hof c hc;refine Q1j ?_ (hin i) (λ m e=>by cases e);rw[pairwise_map];refine Pairwise.filter _ ?_;refine Pairwise.imp (R:=(· < ·)) (λ h=>by omega) pairwise_lt_range
 .obtain⟨i,hi,rfl⟩:=hof c hc;exact hin i
 .obtain⟨ρ,hρ⟩:=Zqr h.lo;have hAl:(b.wo out).A.length=(b.kept out).length:=by rw[Bk.A_length,hlen]
  have hgm:∀p,p<(b.kept out).length->(b.kept out).getD p 0<b.A.length:=λ p hp=>by
   rw[Bk.A_length];refine hkl _ ?_;simp only[getD_eq_getElem?_getD,getElem?_eq_getElem hp,Option.getD_some];exact getElem_mem _
  refine Zd2 (λ p hp q hq=>?_) (λ p=>ρ ((b.kept out).getD p 0)) λ p hp q hq=>?_
  .rw[hAl]at hp ⊢;rw[b.wo_aft out hp,mem_filter,mem_range]at hq;exact hq.1
  .rw[hAl]at hp;rw[b.wo_aft out hp,mem_filter,mem_range]at hq;exact Qy2 h.low ρ hρ _ _ _ (hgm p hp) hq.2
structure Cal where
 wd:List Int
 sp:List (Int×Int)
def wdF:Option Int->List Int->Int
 |_,[]=>0
 |p,n::l=>if W1 n 0 6 then(match p with|some m=>if n<=m then 7 else wdF (some n) l|none=>wdF (some n) l)else 1
def Zoy(p:Option Int)(n:Int)(l:List Int):wdF p (n::l)=if W1 n 0 6 then(match p with|some m=>if n<=m then 7 else wdF (some n) l|none=>wdF (some n) l)else 1:=rfl
def Qg2(n:Int):Bool:=W1 n 0 36524
def spB(s:Int×Int):Bool:=!(Qg2 s.1&&(Qg2 s.2&&!decide (s.1 > s.2)))
def Cal.flaw(c:Cal):Int:=if wdF none c.wd=0 then(if c.sp.length > 6 then 2 else if c.sp.any spB then 1 else 0)else wdF none c.wd
def Cal.open(c:Cal)(d:Nat):Bool:=!(c.wd.contains (((d+5) % 7:Nat):Int)|| c.sp.any λ s=>W1 (d:Int) s.1 s.2)
structure Cal.Ends(c:Cal)(u s n e:Nat):Prop where
 is:∃k d,k<1200/\d<Qd1 k/\s=Wo k+d/\e=nxt c.open (Qia u s n k d)
def Cal.Ends.le{c:Cal}{u s n e:Nat}(h:c.Ends u s n e):e<=36524:=by
 obtain⟨k,d,_,_,_,rfl⟩:=h;exact Zqi (Qvt ..)
def Cal.Ends.mono{c:Cal}{u s n e s' n' e':Nat}(h:c.Ends u s n e)(h':c.Ends u s' n' e')(hs:s<=s')(hn:n<=n'):e<=e':=by
 obtain⟨k,d,_,h1,h2,rfl⟩:=h;obtain⟨k',d',_,h1',h2',rfl⟩:=h';exact Zi0 h2 h2' h1 h1' hs hn
end Go.TM
