/- Lemmas. No conditions. -/
import Derived.Test.YtcakpkianonbkaaGreatDoorB34
set_option linter.all false
open List
namespace Go.TM
structure Cs where
 nm:ByteArray
 ag:Int
 gs:List (List Int)
 af:List Int
structure Bk where
 rs:List ByteArray
 cs:List Cs
structure BH where
 ra:Option Addr
 rl:Nat
 rc:Nat
 ca:Option Addr
 cl:Nat
 cc:Nat
abbrev BH.v(h:BH):Value:=.agg #[.slice h.ra h.rl h.rc,.slice h.ca h.cl h.cc]
variable{T:Type}
def J5(U:Qa T)(a:Option Addr)(len:Nat)(h:List (List Int)):Prop:=Qy U a len 1 h λ l vs=>∃a' b e,vs=[.slice a' b e]/\Z0 U a' b l/\b<2^60
def J5.lg{U U':Qa T}{a:Option Addr}{len:Nat}{B:List (List Int)}(h:J5 U a len B)(z:U.lg U'):J5 U' a len B:=
 Qy.lg h z λ _ _⟨a',w,b,e,E,F⟩=>⟨a',w,b,e,E.lg z,F⟩
def Gg(U:Qa T)(c:Cs)(vs:List Value):Prop:=
 ∃ga gl gc aa al ac,vs=[.string c.nm,.int .i64 c.ag,.slice ga gl gc,.slice aa al ac]/\J5 U ga gl c.gs/\gl<2^60/\Z0 U aa al c.af/\al<2^60
def Gg.lg{U U':Qa T}{c:Cs}{vs:List Value}(h:Gg U c vs)(b:U.lg U'):Gg U' c vs:=
 let ⟨ga,gl,gc,aa,al,ac,e,h1,h2,h3,h4⟩:=h;⟨ga,gl,gc,aa,al,ac,e,h1.lg b,h2,h3.lg b,h4⟩
structure Zp(U:Qa T)(h:BH)(b:Bk):Prop where
 rs:Qy U h.ra h.rl 1 b.rs λ s vs=>vs=[.string s]
 cs:Qy U h.ca h.cl 4 b.cs (Gg U)
 rl:h.rl<2^60
 cl:h.cl<2^60
 rn:∀s∈b.rs,s.size<2^60
 cn:∀c∈b.cs,c.nm.size<2^60
def Zp.lg{U U':Qa T}{h:BH}{b:Bk}(k:Zp U h b)(e:U.lg U'):Zp U' h b:=
 ⟨k.rs.lg e λ _ _ h=>h,k.cs.lg e λ _ _ h=>h.lg e,k.rl,k.cl,k.rn,k.cn⟩
instance decBA:DecidableEq ByteArray:=λ a b=>decidable_of_iff (a.data=b.data) ⟨λ h=>by cases a;cases b;simp_all,λ h=>by rw[h]⟩
def J3(b:Int):Option Int->List Int->Int
 |_,[]=>0
 |p,n::l=>if Ws n 0 (b-1)then(match p with|some m=>if n<=m then 7 else J3 b (some n) l|none=>J3 b (some n) l)else 6
def Wq(b:Int)(p:Option Int)(n:Int)(l:List Int):J3 b p (n::l)=if Ws n 0 (b-1)then(match p with|some m=>if n<=m then 7 else J3 b (some n) l|none=>J3 b (some n) l)else 6:=rfl
def QQ(l:List ByteArray)(s:ByteArray):Bool:=l.any λ x=>decide (x=s)
def sq{l:List ByteArray}{s:ByteArray}:QQ l s=true↔s∈l:=by
 simp only[QQ,any_eq_true,decide_eq_true_eq];exact⟨λ⟨x,h,e⟩=>e▸h,λ h=>⟨s,h,rfl⟩⟩
def XE(nameB:ByteArray->Bool):List ByteArray->List ByteArray->Int
 |_,[]=>0
 |seen,s::l=>if nameB s then(if QQ seen s then 5 else XE nameB (seen++[s]) l)else 4
def X5(nr:Int):List (List Int)->Int
 |[]=>0
 |g::l=>if g.length > 3 then 2 else if J3 nr none g=0 then X5 nr l else J3 nr none g
def ZY(nr:Int)(g:List (List Int)):Int:=if g.length > 3 then 2 else X5 nr g
def WM(nameB:ByteArray->Bool)(nr nc:Int):List ByteArray->List Cs->Int
 |_,[]=>0
 |seen,c::l=>if nameB c.nm then(if QQ seen c.nm then 5 else
   if Ws c.ag 0 (nr-1)then(if ZY nr c.gs=0 then(if J3 nc none c.af=0 then WM nameB nr nc (seen++[c.nm]) l else J3 nc none c.af)else ZY nr c.gs)else 6)else 4
def Bk.nr(b:Bk):Int:=b.rs.length
def Bk.nc(b:Bk):Int:=b.cs.length
def Bk.A(b:Bk):List (List Nat):=b.cs.map λ c=>c.af.map Int.toNat
def Bk.rsF(nameB:ByteArray->Bool)(b:Bk):Int:=if b.rs.length > 6 then 2 else XE nameB [] b.rs
def Bk.csF(nameB:ByteArray->Bool)(b:Bk):Int:=if b.cs.length > 5 then 2 else WM nameB b.nr b.nc [] b.cs
def Bk.flaw(nameB:ByteArray->Bool)(b:Bk):Int:=if b.rsF nameB=0 then(if b.csF nameB=0 then(if Wp b.A then 8 else 0)else b.csF nameB)else b.rsF nameB
def O8{b:Int}:∀{l:List Int}{p:Option Int},J3 b p l=0->∀n∈l,0<=n/\n<b
 |[],_,_,n,e=>by cases e
 |x::l,p,h,n,e=>by
  rw[Wq]at h;by_cases w:Ws x 0 (b-1)=true
  .rw[if_pos w]at h
   have B:0<=x/\x<b:=by
    simp only[Ws,Bool.and_eq_true,decide_eq_true_eq]at w;omega
   have z:J3 b (some x) l=0:=by
    cases p with
    |none=>exact h
    |some m=>
     simp only at h;split at h
     .cases h
     .exact h
   rcases mem_cons.1 e with rfl|e
   .exact B
   .exact O8 z n e
  .rw[if_neg w]at h;cases h
def OK{nameB:ByteArray->Bool}{nr nc:Int}:∀{l:List Cs}{seen:List ByteArray},WM nameB nr nc seen l=0->∀c∈l,(0<=c.ag/\c.ag<nr)/\ZY nr c.gs=0/\J3 nc none c.af=0
 |[],_,_,c,b=>by cases b
 |x::l,seen,h,c,b=>by
  simp only[WM]at h;split at h
  .split at h
   .cases h
   .split at h
    .rename_i hag;split at h
     .rename_i hg;split at h
      .rename_i hr;rcases mem_cons.1 b with rfl|b
       .simp only[Ws,Bool.and_eq_true,decide_eq_true_eq]at hag;exact⟨O1,hg,hr⟩
       .exact OK h c b
      .rename_i hr;exact absurd h hr
     .rename_i hg;exact absurd h hg
    .cases h
  .cases h
def MQ{nr:Int}:∀{l:List (List Int)},X5 nr l=0->∀g∈l,g.length<=3/\J3 nr none g=0
 |[],_,g,b=>by cases b
 |x::l,h,g,b=>by
  simp only[X5]at h;split at h
  .cases h
  .split at h
   .rename_i hr;rcases mem_cons.1 b with rfl|b
    .exact⟨O1,hr⟩
    .exact MQ h g b
   .rename_i hr;exact absurd h hr
structure Bk.Ok(b:Bk):Prop where
 nr:b.rs.length<=6
 nc:b.cs.length<=5
 ag:∀c∈b.cs,0<=c.ag/\c.ag<b.nr
 gl:∀c∈b.cs,c.gs.length<=3
 gs:∀c∈b.cs,∀g∈c.gs,g.length<=3/\∀n∈g,0<=n/\n<b.nr
 ri:∀c∈b.cs,J3 b.nc none c.af=0
 af:∀c∈b.cs,∀n∈c.af,0<=n/\n<b.nc
 lo:Wp b.A=false
def Bk.ok_of{nameB:ByteArray->Bool}{b:Bk}(h:b.flaw nameB=0):b.Ok:=by
 unfold Bk.flaw at h;split at h
 .rename_i h1;split at h
  .rename_i h2;split at h
   .cases h
   .rename_i h3;unfold Bk.rsF at h1;unfold Bk.csF at h2;split at h1
    .cases h1
    .split at h2
     .cases h2
     .have hin:=OK h2
      have z:∀c∈b.cs,c.gs.length<=3/\∀g∈c.gs,g.length<=3/\J3 b.nr none g=0:=by
       intro c e;have:=(hin c e).2.1;unfold ZY at this;split at this
       .cases this
       .exact⟨O1,MQ this⟩
      exact⟨O1,O1,λ c e=>(hin c e).1,λ c e=>(z c e).1,λ c e g w=>⟨((z c e).2 g w).1,O8 ((z c e).2 g w).2⟩,λ c e=>(hin c e).2.2,λ c e=>O8 (hin c e).2.2,by simpa using h3⟩
  .rename_i h2;exact absurd h h2
 .rename_i h1;exact absurd h h1
def Bk.Ok.low{b:Bk}(h:b.Ok):∀i,i<b.A.length->∀k∈Jg b.A i,k<b.A.length:=by
 intro i e k w;simp only[Bk.A,length_map]at e ⊢;simp only[Jg,Bk.A,getD_eq_getElem?_getD,getElem?_map,getElem?_eq_getElem e,Option.map_some,Option.getD_some,mem_map]at w;obtain⟨n,z,rfl⟩:=w;have:=h.af _ (getElem_mem e) n z;unfold Bk.nc at this;omega
instance:Inhabited Cs:=⟨⟨⟨#[]⟩,0,[],[]⟩⟩
def Bk.cas(b:Bk)(i:Nat):Cs:=b.cs.getD i default
def NN(gs:List (List Int))(s:List Bool):Bool:=gs.any λ g=>g.all λ r=>s.getD r.toNat false
def Bk.stp(b:Bk)(x:List Bool×List Bool)(i:Nat):List Bool×List Bool:=if NN (b.cas i).gs x.1 then(x.1.set (b.cas i).ag.toNat false,x.2.set i true)else x
def Bk.ini(b:Bk):List Bool×List Bool:=(replicate b.rs.length true,replicate b.cs.length false)
def Bk.ends(b:Bk)(o:List Nat):List Bool×List Bool:=o.foldl b.stp b.ini
def Bk.ends_snoc(b:Bk)(o:List Nat)(i:Nat):b.ends (o++[i])=b.stp (b.ends o) i:=by simp[Bk.ends]
def Bk.can(b:Bk)(o:List Nat)(i:Nat):Bool:=!o.contains i&&(Jg b.A i).all λ k=>o.contains k
def Bk.ords(b:Bk):Nat->List Nat->List (List Nat)
 |0,o=>[o]
 |k+1,o=>(range b.cs.length).flatMap λ i=>if b.can o i then b.ords k (o++[i])else[]
def Bk.all(b:Bk):List (List Nat):=b.ords b.cs.length []
def Bk.ordL(b:Bk):List Nat->List Int->Int
 |_,[]=>0
 |o,i::l=>if Ws i 0 (b.nc-1)then(if i.toNat∈o then 5 else if(Jg b.A i.toNat).all (λ k=>o.contains k)then b.ordL (o++[i.toNat]) l else 7)else 6
def Bk.ordF(b:Bk)(l:List Int):Int:=if l.length≠b.cs.length then 2 else b.ordL [] l
def Hy(b all:Nat):Int:=if b=all then 1 else if b=0 then 2 else 0
def Bk.fatR(b:Bk)(r:Nat):Int:=Hy (b.all.countP λ o=>(b.ends o).1.getD r false) b.all.length
def Bk.fatC(b:Bk)(i:Nat):Int:=Hy (b.all.countP λ o=>(b.ends o).2.getD i false) b.all.length
def Bk.fatesR(b:Bk):List Int:=(range b.rs.length).map b.fatR
def Bk.fatesC(b:Bk):List Int:=(range b.cs.length).map b.fatC
def Bk.difS(b:Bk)(r:Nat)(w:Bool):List Nat:=(b.all.find? λ o=>(b.ends o).1.getD r false==w).getD []
def Bk.kept(b:Bk)(out:Nat->Bool):List Nat:=(range b.cs.length).filter λ i=>!out i
def Bk.wo(b:Bk)(out:Nat->Bool):Bk:=
 ⟨b.rs,(b.kept out).map λ i=>{ b.cas i with af:=((range (b.kept out).length).filter λ p=>QO b.A out b.cs.length i ((b.kept out).getD p 0)).map λ(p:Nat)=>(p:Int) }⟩
def ZD(n:Int):List Int->List Int
 |[]=>[n]
 |x::l=>if x<n then x::ZD n l else n::x::l
def Bk.sty(b:Bk)(s:Int×Int):Bk:=⟨b.rs,b.cs.set s.1.toNat { b.cas s.1.toNat with af:=ZD s.2 (b.cas s.1.toNat).af }⟩
def Bk.stys(b:Bk)(l:List (Int×Int)):Bk:=l.foldl Bk.sty b
def Bk.cans(b:Bk):List (Int×Int):=(range b.cs.length).flatMap λ(i:Nat)=>(((range b.cs.length).filter λ k=>k != i&&!(b.cas i).af.contains (k:Int)).map λ(k:Nat)=>((i:Int),(k:Int)))
def Jf:Bk:=⟨[⟨#[97,122,117,114]⟩,⟨#[98,111,114,97]⟩,⟨#[99,105,109,97]⟩],[⟨⟨#[111,112,112]⟩,1,[[0]],[]⟩,⟨⟨#[114,101,118]⟩,0,[[]],[]⟩,⟨⟨#[105,110,118]⟩,2,[[1]],[]⟩]⟩
def Lj:Jf.fatesR=[2,0,0]/\Jf.fatesC=[0,1,0]:=D1
def F5:Jf.difS 1 true=[1,0,2]/\Jf.difS 1 false=[0,1,2]:=D1
def MB:Jf.cans=[(0,1),(0,2),(1,0),(1,2),(2,0),(2,1)]:=D1
def XU(X:List Nat)(n i:Nat):List Nat:=X.take i++replicate (n-i) 0
def gT(X:List Nat)(n:Nat):XU X n 0=replicate n 0:=by simp[XU]
def kS{X:List Nat}{n:Nat}(h:X.length=n):XU X n n=X:=by simp[XU,<- h]
def vY{X:List Nat}{n i x:Nat}(w:X[i]?=some x)(z:X.length=n):(XU X n i).set i x=XU X n (i+1):=by
 obtain⟨b,rfl⟩:=List.getElem?_eq_some_iff.1 w;unfold XU;have e:(X.take i).length=i:=by rw[length_take];omega
 have h:n-i=(n-(i+1))+1:=O1
 rw[set_append_right _ _ O1,e,Nat.sub_self,h,replicate_succ,set_cons_zero,take_succ_eq_append_getElem b,append_assoc];rfl
def kT{X:List Nat}{n i:Nat}(e:X.length=n)(b:i<=n):(XU X n i).length=n:=by
 unfold XU;rw[length_append,length_take,length_replicate];omega
section
variable(out:Nat->Bool)
def Hz(i:Nat)(af:List Nat)(k:Nat):List Nat:=(range k).foldl (λ af k=>WW out af i k) af
def XY(n:Nat)(af:List Nat)(i:Nat):List Nat:=(range i).foldl (λ af i=>Gs out n af i) af
def DP(i:Nat)(af:List Nat)(k:Nat):Hz out i af (k+1)=WW out (Hz out i af k) i k:=by simp[Hz,range_succ]
def Fk(n i:Nat)(af:List Nat):Hz out i af n=Gs out n af i:=rfl
def DR(n:Nat)(af:List Nat)(i:Nat):XY out n af (i+1)=Gs out n (XY out n af i) i:=by simp[XY,range_succ]
structure WB(n m:Nat)(af:List Nat):Prop where
 len:af.length=n
 lt:∀x∈af,x<2^m
variable{out}
def WB.at{n m:Nat}{af:List Nat}(h:WB n m af)(i:Nat):af.getD i 0<2^m:=by
 rw[getD_eq_getElem?_getD];cases b:af[i]? with
 |none=>exact Nat.two_pow_pos m
 |some x=>exact h.lt x (mem_of_getElem? b)
def WB.one{n m i k:Nat}{af:List Nat}(h:WB n m af):WB n m (WW out af i k):=by
 unfold WW;split
 .refine⟨by simpa using h.len,λ x b=>?_⟩;rcases mem_or_eq_of_mem_set b with b|rfl
  .exact h.lt x b
  .exact Nat.or_lt_two_pow (h.at i) (h.at k)
 .exact h
def WB.to{n m i:Nat}{af:List Nat}(h:WB n m af):∀k,WB n m (Hz out i af k)
 |0=>h
 |k+1=>by rw[DP];exact(WB.to h k).one
def WB.rto{n m:Nat}{af:List Nat}(h:WB n m af):∀i,WB n m (XY out n af i)
 |0=>h
 |i+1=>by
  rw[DR,<- Fk];exact(WB.rto h i).to n
end
section
variable(b:Bk)(out:Nat->Bool)
def Bk.kpt(j:Nat):List Nat:=(range j).filter λ i=>!out i
def Bk.kpt_all:Bk.kpt out b.cs.length=b.kept out:=rfl
variable{out}
def Bk.kpt_in{j:Nat}(h:out j=false):Bk.kpt out (j+1)=Bk.kpt out j++[j]:=by
 unfold Bk.kpt;rw[range_succ,filter_append,filter_cons_of_pos (by simp[h])];rfl
def Bk.kpt_out{j:Nat}(h:out j=true):Bk.kpt out (j+1)=Bk.kpt out j:=by
 unfold Bk.kpt;rw[range_succ,filter_append,filter_cons_of_neg (by simp[h])];simp
def Bk.kpt_len(j:Nat):(Bk.kpt out j).length<=j:=Nat.le_trans (length_filter_le _ _) S1
def Bk.kpt_lt{j k:Nat}(h:k∈Bk.kpt out j):k<j/\out k=false:=by
 unfold Bk.kpt at h;simpa using h
def Bk.kpt_nodup(j:Nat):(Bk.kpt out j).Nodup:=nodup_range.filter _
def Bk.afK(out:Nat->Bool)(w j:Nat):List Int:=((range (Bk.kpt out j).length).filter λ q=>w.testBit ((Bk.kpt out j).getD q 0)).map λ(q:Nat)=>(q:Int)
def Bk.afK_len(w j:Nat):(Bk.afK out w j).length<=j:=by
 unfold Bk.afK;rw[length_map];exact Nat.le_trans (length_filter_le _ _) (by simpa using Bk.kpt_len j)
def Bk.afK_out{w j:Nat}(h:out j=true):Bk.afK out w (j+1)=Bk.afK out w j:=by unfold Bk.afK;rw[Bk.kpt_out h]
def Bk.afK_in{w j:Nat}(h:out j=false):Bk.afK out w (j+1)=Bk.afK out w j++(if w.testBit j then[((Bk.kpt out j).length:Int)]else[]):=by
 unfold Bk.afK;rw[Bk.kpt_in h,length_append,length_cons,length_nil,range_succ,filter_append,map_append]
 have B:((range (Bk.kpt out j).length).filter λ q=>w.testBit ((Bk.kpt out j++[j]).getD q 0))=(range (Bk.kpt out j).length).filter λ q=>w.testBit ((Bk.kpt out j).getD q 0):=by
  refine filter_congr λ q z=>?_;rw[mem_range]at z;rw[getD_eq_getElem?_getD,getElem?_append_left z,<- getD_eq_getElem?_getD]
 have b:(Bk.kpt out j++[j]).getD (Bk.kpt out j).length 0=j:=by simp[getD_eq_getElem?_getD]
 rw[B];congr 1;cases e:w.testBit j with
 |true=>rw[filter_cons_of_pos (by rw[b];exact e)];simp
 |false=>rw[filter_cons_of_neg (by rw[b,e];simp)];simp
def Bk.wo_cs(b:Bk)(W:List Nat)(h:∀i,i<b.cs.length->∀k,(W.getD i 0).testBit k=QO b.A out b.cs.length i k) :
  (b.wo out).cs=(b.kept out).map λ i=>{ b.cas i with af:=Bk.afK out (W.getD i 0) b.cs.length }:=by
 unfold Bk.wo;refine map_congr_left λ i w=>?_;have e:i<b.cs.length:=(Bk.kpt_lt (j:=b.cs.length) w).1;unfold Bk.afK;rw[Bk.kpt_all];simp only[h i e]
def Bk.A_length(b:Bk):b.A.length=b.cs.length:=by simp[Bk.A]
def Bk.Ok.wlW{b:Bk}(h:b.Ok)(out:Nat->Bool):∀i,i<b.cs.length->∀k,((Pk out b.cs.length b.cs.length (b.A.map Jb)).getD i 0).testBit k=QO b.A out b.cs.length i k:=by
 intro i e k;have:=dS (A:=b.A) (out:=out) h.low h.lo (i:=i) (k:=k) (by rw[b.A_length];exact e);rw[b.A_length]at this;exact this
end
section
variable{A:List (List Nat)}
def MJ{two:Nat}(w:∀i,i<A.length->∀k∈Jg A i,k<A.length)(ρ:Nat->Nat)(h:∀i,i<A.length->∀k∈Jg A i,ρ k<ρ i):∀(s i:Nat),i<A.length->Wu A two s i=true->ρ two<ρ i
 |0,_,_,b=>by simp[Wu]at b
 |s+1,i,z,b=>by
  simp only[Wu,any_eq_true,Bool.or_eq_true,beq_iff_eq]at b;obtain⟨k,B,b⟩:=b;have e:=h i z k B;rcases b with rfl|b
  .exact e
  .exact Nat.lt_trans (MJ w ρ h s k (w i z k B) b) e
def gZ(e:∀i,i<A.length->∀k∈Jg A i,k<A.length)(ρ:Nat->Nat)(h:∀i,i<A.length->∀k∈Jg A i,ρ k<ρ i):Wp A=false:=by
 rw[EM e];cases b:Xu A with
 |false=>rfl
 |true=>
  unfold Xu at b;rw[any_eq_true]at b;obtain⟨i,w,z⟩:=b;exact absurd (MJ e ρ h _ i (by simpa using w) z) (Nat.lt_irrefl _)
def uI(h:Wp A=false):∃ρ:Nat->Nat,∀i,i<A.length->∀k∈Jg A i,ρ k<ρ i:=by
 obtain⟨L,I,w⟩:=F9 h;refine⟨λ x=>L.length-L.idxOf x,λ i M k N=>?_⟩;obtain⟨X,Y,e⟩:=append_of_mem (w i M);have b:=I.aft X Y i e k N;have K:=I.nod;rw[e,nodup_append]at K;obtain⟨P,H,z⟩:=K;have B:i∉X:=λ G=>z i G i S1 rfl;have E:k∉X:=λ G=>z k G k (by simp[b]) rfl;have F:k≠i:=λ e'=>(nodup_cons.1 H).1 (e'▸b)
 have Q:L.idxOf i=X.length:=by
  rw[e,idxOf_append,if_neg B];simp
 have S:L.idxOf k=X.length+(Y.idxOf k+1):=by
  rw[e,idxOf_append,if_neg E,idxOf_cons,show(i==k)=false by simpa using F.symm];simp only[cond_false];omega
 have T:Y.idxOf k<Y.length:=idxOf_lt_length_of_mem b;have U:L.length=X.length+(Y.length+1):=by rw[e];simp
 show L.length-L.idxOf k<L.length-L.idxOf i;omega
def Mt{out:Nat->Bool}(z:∀i,i<A.length->∀k∈Jg A i,k<A.length)(ρ:Nat->Nat)(h:∀i,i<A.length->∀k∈Jg A i,ρ k<ρ i):∀(s i k:Nat),i<A.length->QO A out s i k=true->ρ k<ρ i
 |0,i,k,b,e=>h i b k (by simpa[QO]using e)
 |s+1,i,k,b,e=>by
  rcases KI.1 e with e|⟨o,w,E,B⟩
  .exact h i b k (by simpa using e)
  .exact Nat.lt_trans (Mt z ρ h s o k (z i b o w) B) (h i b o w)
end
def OD{b:Int}:∀{l:List Int}{p:Option Int},l.Pairwise (· < ·)->(∀x∈l,0<=x/\x<b)->(∀m,p=some m->∀x∈l,m<x)->J3 b p l=0
 |[],_,_,_,_=>rfl
 |n::l,p,G,w,F=>by
  obtain⟨B,E⟩:=pairwise_cons.1 G;have H:=w n S1;have z:=OD (b:=b) (p:=some n) E (λ x h=>w x (by simp[h])) λ m e x h=>by cases e;exact B x h
  rw[Wq,if_pos (by simp only[Ws,Bool.and_eq_true,decide_eq_true_eq];omega)];cases p with
  |none=>exact z
  |some m=>
   have:=F m rfl n S1;simp only;rw[if_neg O1];exact z
def Bk.wo_nc(b:Bk)(out:Nat->Bool):(b.wo out).cs.length=(b.kept out).length:=by simp[Bk.wo]
def Bk.wo_aft(b:Bk)(out:Nat->Bool){p:Nat}(h:p<(b.kept out).length):Jg (b.wo out).A p=(range (b.kept out).length).filter λ q=>QO b.A out b.cs.length ((b.kept out).getD p 0) ((b.kept out).getD q 0):=by
 have w:(b.wo out).cs[p]?=some { b.cas ((b.kept out).getD p 0)with af:=((range (b.kept out).length).filter λ q=>QO b.A out b.cs.length ((b.kept out).getD p 0) ((b.kept out).getD q 0)).map λ(q:Nat)=>(q:Int) }:=by
  unfold Bk.wo;simp[getD_eq_getElem?_getD,h]
 unfold Jg
 have e:(b.wo out).A[p]?=some ((((range (b.kept out).length).filter λ q=>QO b.A out b.cs.length ((b.kept out).getD p 0) ((b.kept out).getD q 0)).map λ(q:Nat)=>(q:Int)).map Int.toNat):=by
  unfold Bk.A;rw[getElem?_map];show Option.map _ (b.wo out).cs[p]?=_;rw[w];rfl
 rw[getD_eq_getElem?_getD,e,Option.getD_some,map_map];have:(Int.toNat ∘ λ(p:Nat)=>(p:Int))=id:=by funext p;simp
 rw[this,map_id]
def Bk.Ok.wo{b:Bk}(h:b.Ok)(out:Nat->Bool):(b.wo out).Ok:=by
 have Q:(b.kept out).length<=b.cs.length:=Bk.kpt_len (out:=out) b.cs.length;have F:=b.wo_nc out;have P:=h.nc;have K:∀i∈b.kept out,i<b.cs.length:=λ i w=>(Bk.kpt_lt (j:=b.cs.length) w).1
 have G:∀i∈b.kept out,b.cas i∈b.cs:=λ i w=>by
  simp only[Bk.cas,getD_eq_getElem?_getD,getElem?_eq_getElem (K i w),Option.getD_some];exact getElem_mem _
 have B:∀c∈(b.wo out).cs,∃i∈b.kept out,c={ b.cas i with af:=((range (b.kept out).length).filter λ p=>QO b.A out b.cs.length i ((b.kept out).getD p 0)).map λ(p:Nat)=>(p:Int) }:=by
  intro c z;obtain⟨i,w,rfl⟩:=mem_map.1 z;exact⟨i,w,rfl⟩
 have I:∀i,∀n∈((range (b.kept out).length).filter λ p=>QO b.A out b.cs.length i ((b.kept out).getD p 0)).map (λ(p:Nat)=>(p:Int)),0<=n/\n<(b.wo out).nc:=by
  intro i n N;obtain⟨p,E,rfl⟩:=mem_map.1 N;have:=(mem_filter.1 E).1;rw[mem_range]at this;unfold Bk.nc;rw[F];omega
 refine⟨h.nr,O1,λ c z=>?_,λ c z=>?_,λ c z=>?_,λ c z=>?_,λ c z=>?_,?_⟩
 .obtain⟨i,w,rfl⟩:=B c z;exact h.ag (b.cas i) (G i w)
 .obtain⟨i,w,rfl⟩:=B c z;exact h.gl (b.cas i) (G i w)
 .obtain⟨i,w,rfl⟩:=B c z;exact h.gs (b.cas i) (G i w)
 .obtain⟨i,w,rfl⟩:=B c z;refine OD ?_ (I i) (λ m e=>by cases e);rw[pairwise_map];refine Pairwise.filter _ ?_;refine Pairwise.imp (R:=(· < ·)) (λ h=>O1) pairwise_lt_range
 .obtain⟨i,w,rfl⟩:=B c z;exact I i
 .obtain⟨ρ,hρ⟩:=uI h.lo;have H:(b.wo out).A.length=(b.kept out).length:=by rw[Bk.A_length,F]
  have M:∀p,p<(b.kept out).length->(b.kept out).getD p 0<b.A.length:=λ p E=>by
   rw[Bk.A_length];refine K _ ?_;simp only[getD_eq_getElem?_getD,getElem?_eq_getElem E,Option.getD_some];exact getElem_mem _
  refine gZ (λ p E q L=>?_) (λ p=>ρ ((b.kept out).getD p 0)) λ p E q L=>?_
  .rw[H]at E ⊢;rw[b.wo_aft out E,mem_filter,mem_range]at L;exact L.1
  .rw[H]at E;rw[b.wo_aft out E,mem_filter,mem_range]at L;exact Mt h.low ρ hρ _ _ _ (M p E) L.2
structure QV where
 wd:List Int
 sp:List (Int×Int)
def wdF:Option Int->List Int->Int
 |_,[]=>0
 |p,n::l=>if Ws n 0 6 then(match p with|some m=>if n<=m then 7 else wdF (some n) l|none=>wdF (some n) l)else 1
def uv(p:Option Int)(n:Int)(l:List Int):wdF p (n::l)=if Ws n 0 6 then(match p with|some m=>if n<=m then 7 else wdF (some n) l|none=>wdF (some n) l)else 1:=rfl
def JH(n:Int):Bool:=Ws n 0 36524
def Xi(s:Int×Int):Bool:=!(JH s.1&&(JH s.2&&!decide (s.1 > s.2)))
def QV.flaw(c:QV):Int:=if wdF none c.wd=0 then(if c.sp.length > 6 then 2 else if c.sp.any Xi then 1 else 0)else wdF none c.wd
def QV.open(c:QV)(d:Nat):Bool:=!(c.wd.contains (((d+5) % 7:Nat):Int)|| c.sp.any λ s=>Ws (d:Int) s.1 s.2)
structure QV.Ends(c:QV)(u s n e:Nat):Prop where
 is:∃k d,k<1200/\d<ZL k/\s=Wt k+d/\e=QC c.open (Xw u s n k d)
def QV.Ends.le{c:QV}{u s n e:Nat}(h:c.Ends u s n e):e<=36524:=by
 obtain⟨k,d,_,_,_,rfl⟩:=h;exact dj (UT ..)
def QV.Ends.mono{c:QV}{u s n e z n' e':Nat}(h:c.Ends u s n e)(B:c.Ends u z n' e')(H:s<=z)(G:n<=n'):e<=e':=by
 obtain⟨k,d,_,E,F,rfl⟩:=h;obtain⟨k',d',_,b,w,rfl⟩:=B;exact kR F w E b H G
end Go.TM

