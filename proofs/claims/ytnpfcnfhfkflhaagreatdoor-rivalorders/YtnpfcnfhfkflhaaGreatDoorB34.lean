/- Lemmas. No conditions. -/
import Derived.Test.YtnpfcnfhfkflhaaGreatDoorB33
set_option linter.all false
open List
namespace Go.TM
structure Cs where
 nm:ByteArray
 ag:Int
 gs:List (List Int)
 af:List Int
structure Bk where
 rs:List ByteArray
 cs:List Cs
structure BH where
 ra:Option Addr
 rl:Nat
 rc:Nat
 ca:Option Addr
 cl:Nat
 cc:Nat
abbrev BH.v(h:BH):Value:=.agg #[.slice h.ra h.rl h.rc,.slice h.ca h.cl h.cc]
variable{T:Type}
def J3(U:Qa T)(a:Option Addr)(len:Nat)(f:List (List Int)):Prop:=Q5 U a len 1 f λ l vs=>∃a' b e,vs=[.slice a' b e]/\Z5 U a' b l/\b<2^60
def J3.lg{U U':Qa T}{a:Option Addr}{len:Nat}{z:List (List Int)}(h:J3 U a len z)(w:U.lg U'):J3 U' a len z:=
 Q5.lg h w λ _ _⟨a',f,b,e,B,E⟩=>⟨a',f,b,e,B.lg w,E⟩
def HT(U:Qa T)(c:Cs)(vs:List Value):Prop:=
 ∃ga gl gc b al ac,vs=[.string c.nm,.int .i64 c.ag,.slice ga gl gc,.slice b al ac]/\J3 U ga gl c.gs/\gl<2^60/\Z5 U b al c.af/\al<2^60
def HT.lg{U U':Qa T}{c:Cs}{vs:List Value}(h:HT U c vs)(b:U.lg U'):HT U' c vs:=
 let ⟨ga,gl,gc,aa,al,ac,e,h1,h2,h3,h4⟩:=h;⟨ga,gl,gc,aa,al,ac,e,h1.lg b,h2,h3.lg b,h4⟩
structure Zq(U:Qa T)(h:BH)(b:Bk):Prop where
 rs:Q5 U h.ra h.rl 1 b.rs λ s vs=>vs=[.string s]
 cs:Q5 U h.ca h.cl 4 b.cs (HT U)
 rl:h.rl<2^60
 cl:h.cl<2^60
 rn:∀s∈b.rs,s.size<2^60
 cn:∀c∈b.cs,c.nm.size<2^60
def Zq.lg{U U':Qa T}{h:BH}{b:Bk}(k:Zq U h b)(e:U.lg U'):Zq U' h b:=
 ⟨k.rs.lg e λ _ _ h=>h,k.cs.lg e λ _ _ h=>h.lg e,k.rl,k.cl,k.rn,k.cn⟩
instance decBA:DecidableEq ByteArray:=λ a b=>decidable_of_iff (a.data=b.data) ⟨λ h=>by cases a;cases b;simp_all,λ h=>by rw[h]⟩
def J1(b:Int):Option Int->List Int->Int
 |_,[]=>0
 |p,n::l=>if btw n 0 (b-1)then(match p with|some m=>if n<=m then 7 else J1 b (some n) l|none=>J1 b (some n) l)else 6
def Wm(b:Int)(p:Option Int)(n:Int)(l:List Int):J1 b p (n::l)=if btw n 0 (b-1)then(match p with|some m=>if n<=m then 7 else J1 b (some n) l|none=>J1 b (some n) l)else 6:=rfl
def QR(l:List ByteArray)(s:ByteArray):Bool:=l.any λ x=>decide (x=s)
def xL{l:List ByteArray}{s:ByteArray}:QR l s=true↔s∈l:=by
 simp_all[QR,any_eq_true,decide_eq_true_eq]
def Xl(nameB:ByteArray->Bool):List ByteArray->List ByteArray->Int
 |_,[]=>0
 |seen,s::l=>if nameB s then(if QR seen s then 5 else Xl nameB (seen++[s]) l)else 4
def WV(nr:Int):List (List Int)->Int
 |[]=>0
 |g::l=>if g.length > 3 then 2 else if J1 nr none g=0 then WV nr l else J1 nr none g
def ZX(nr:Int)(g:List (List Int)):Int:=if g.length > 3 then 2 else WV nr g
def WC(nameB:ByteArray->Bool)(nr nc:Int):List ByteArray->List Cs->Int
 |_,[]=>0
 |seen,c::l=>if nameB c.nm then(if QR seen c.nm then 5 else
   if btw c.ag 0 (nr-1)then(if ZX nr c.gs=0 then(if J1 nc none c.af=0 then WC nameB nr nc (seen++[c.nm]) l else J1 nc none c.af)else ZX nr c.gs)else 6)else 4
def Bk.nr(b:Bk):Int:=b.rs.length
def Bk.nc(b:Bk):Int:=b.cs.length
def Bk.A(b:Bk):List (List Nat):=b.cs.map λ c=>c.af.map Int.toNat
def Bk.rsF(nameB:ByteArray->Bool)(b:Bk):Int:=if b.rs.length > 6 then 2 else Xl nameB [] b.rs
def Bk.csF(nameB:ByteArray->Bool)(b:Bk):Int:=if b.cs.length > 5 then 2 else WC nameB b.nr b.nc [] b.cs
def Bk.flaw(nameB:ByteArray->Bool)(b:Bk):Int:=if b.rsF nameB=0 then(if b.csF nameB=0 then(if Wq b.A then 8 else 0)else b.csF nameB)else b.rsF nameB
def Yk{b:Int}:∀{l:List Int}{p:Option Int},J1 b p l=0->∀n∈l,0<=n/\n<b
 |[],_,_,n,e=>by cases e
 |x::l,p,h,n,e=>by
  rw[Wm]at h;by_cases f:btw x 0 (b-1)=true
  .rw[if_pos f]at h
   have z:0<=x/\x<b:=by
    simp only[btw,Bool.and_eq_true,decide_eq_true_eq]at f;omega
   have w:J1 b (some x) l=0:=by
    cases p with
    |none=>exact h
    |some m=>
     simp only at h;split at h
     .cases h
     .exact h
   rcases mem_cons.1 e with rfl|e
   .exact z
   .exact Yk w n e
  simp_all
def TO{nameB:ByteArray->Bool}{nr nc:Int}:∀{l:List Cs}{seen:List ByteArray},WC nameB nr nc seen l=0->∀c∈l,(0<=c.ag/\c.ag<nr)/\ZX nr c.gs=0/\J1 nc none c.af=0
 |[],_,_,c,b=>by cases b
 |x::l,seen,h,c,b=>by
  simp only[WC]at h;split at h
  .split at h
   .cases h
   .split at h
    .rename_i hag;split at h
     .rename_i hg;split at h
      .rename_i hr;rcases mem_cons.1 b with rfl|b
       .simp only[btw,Bool.and_eq_true,decide_eq_true_eq]at hag;exact⟨O1,hg,hr⟩
       .exact TO h c b
      .rename_i hr;exact absurd h hr
     simp_all
    .cases h
  .cases h
def FK{nr:Int}:∀{l:List (List Int)},WV nr l=0->∀g∈l,g.length<=3/\J1 nr none g=0
 |[],_,g,b=>by cases b
 |x::l,h,g,b=>by
  simp only[WV]at h;split at h
  .cases h
  .split at h
   .rename_i hr;rcases mem_cons.1 b with rfl|b
    .exact⟨O1,hr⟩
    .exact FK h g b
   .rename_i hr;exact absurd h hr
structure Bk.Ok(b:Bk):Prop where
 nr:b.rs.length<=6
 nc:b.cs.length<=5
 ag:∀c∈b.cs,0<=c.ag/\c.ag<b.nr
 gl:∀c∈b.cs,c.gs.length<=3
 gs:∀c∈b.cs,∀g∈c.gs,g.length<=3/\∀n∈g,0<=n/\n<b.nr
 ri:∀c∈b.cs,J1 b.nc none c.af=0
 af:∀c∈b.cs,∀n∈c.af,0<=n/\n<b.nc
 lo:Wq b.A=false
def Bk.ok_of{nameB:ByteArray->Bool}{b:Bk}(h:b.flaw nameB=0):b.Ok:=by
 unfold Bk.flaw at h;split at h
 .rename_i h1;split at h
  .rename_i h2;split at h
   .cases h
   .rename_i h3;unfold Bk.rsF at h1;unfold Bk.csF at h2;split at h1
    .cases h1
    .split at h2
     .cases h2
     .have hin:=TO h2
      have w:∀c∈b.cs,c.gs.length<=3/\∀g∈c.gs,g.length<=3/\J1 b.nr none g=0:=by
       intro c e;have:=(hin c e).2.1;unfold ZX at this;split at this
       .cases this
       .exact⟨O1,FK this⟩
      exact⟨O1,O1,λ c e=>(hin c e).1,λ c e=>(w c e).1,λ c e g f=>⟨((w c e).2 g f).1,Yk ((w c e).2 g f).2⟩,λ c e=>(hin c e).2.2,λ c e=>Yk (hin c e).2.2,by simpa using h3⟩
  .rename_i h2;exact absurd h h2
 simp_all
def Bk.Ok.low{b:Bk}(h:b.Ok):∀i,i<b.A.length->∀k∈Je b.A i,k<b.A.length:=by
 intro i e k f;simp only[Bk.A,length_map]at e ⊢;simp only[Je,Bk.A,getD_eq_getElem?_getD,getElem?_map,getElem?_eq_getElem e,Option.map_some,Option.getD_some,mem_map]at f;obtain⟨n,w,rfl⟩:=f;have:=h.af _ (getElem_mem e) n w;grind[Bk.nc]
instance:Inhabited Cs:=⟨⟨⟨#[]⟩,0,[],[]⟩⟩
def Bk.cas(b:Bk)(i:Nat):Cs:=b.cs.getD i default
def Iq(gs:List (List Int))(s:List Bool):Bool:=gs.any λ g=>g.all λ r=>s.getD r.toNat false
def Bk.stp(b:Bk)(x:List Bool×List Bool)(i:Nat):List Bool×List Bool:=if Iq (b.cas i).gs x.1 then(x.1.set (b.cas i).ag.toNat false,x.2.set i true)else x
def Bk.ini(b:Bk):List Bool×List Bool:=(replicate b.rs.length true,replicate b.cs.length false)
def Bk.ends(b:Bk)(o:List Nat):List Bool×List Bool:=o.foldl b.stp b.ini
def Bk.ends_snoc(b:Bk)(o:List Nat)(i:Nat):b.ends (o++[i])=b.stp (b.ends o) i:=by simp[Bk.ends]
def Bk.can(b:Bk)(o:List Nat)(i:Nat):Bool:=!o.contains i&&(Je b.A i).all λ k=>o.contains k
def Bk.ords(b:Bk):Nat->List Nat->List (List Nat)
 |0,o=>[o]
 |k+1,o=>(range b.cs.length).flatMap λ i=>if b.can o i then b.ords k (o++[i])else[]
def Bk.all(b:Bk):List (List Nat):=b.ords b.cs.length []
def Bk.ordL(b:Bk):List Nat->List Int->Int
 |_,[]=>0
 |o,i::l=>if btw i 0 (b.nc-1)then(if i.toNat∈o then 5 else if(Je b.A i.toNat).all (λ k=>o.contains k)then b.ordL (o++[i.toNat]) l else 7)else 6
def Bk.ordF(b:Bk)(l:List Int):Int:=if l.length≠b.cs.length then 2 else b.ordL [] l
def H9(b all:Nat):Int:=if b=all then 1 else if b=0 then 2 else 0
def Bk.fatR(b:Bk)(r:Nat):Int:=H9 (b.all.countP λ o=>(b.ends o).1.getD r false) b.all.length
def Bk.fatC(b:Bk)(i:Nat):Int:=H9 (b.all.countP λ o=>(b.ends o).2.getD i false) b.all.length
def Bk.fatesR(b:Bk):List Int:=(range b.rs.length).map b.fatR
def Bk.fatesC(b:Bk):List Int:=(range b.cs.length).map b.fatC
def Bk.difS(b:Bk)(r:Nat)(w:Bool):List Nat:=(b.all.find? λ o=>(b.ends o).1.getD r false==w).getD []
def Bk.kept(b:Bk)(out:Nat->Bool):List Nat:=(range b.cs.length).filter λ i=>!out i
def Bk.wo(b:Bk)(out:Nat->Bool):Bk:=
 ⟨b.rs,(b.kept out).map λ i=>{ b.cas i with af:=((range (b.kept out).length).filter λ p=>QP b.A out b.cs.length i ((b.kept out).getD p 0)).map λ(p:Nat)=>(p:Int) }⟩
def ZH(n:Int):List Int->List Int
 |[]=>[n]
 |x::l=>if x<n then x::ZH n l else n::x::l
def Bk.sty(b:Bk)(s:Int×Int):Bk:=⟨b.rs,b.cs.set s.1.toNat { b.cas s.1.toNat with af:=ZH s.2 (b.cas s.1.toNat).af }⟩
def Bk.stys(b:Bk)(l:List (Int×Int)):Bk:=l.foldl Bk.sty b
def Bk.cans(b:Bk):List (Int×Int):=(range b.cs.length).flatMap λ(i:Nat)=>(((range b.cs.length).filter λ k=>k != i&&!(b.cas i).af.contains (k:Int)).map λ(k:Nat)=>((i:Int),(k:Int)))
def Jc:Bk:=⟨[⟨#[97,122,117,114]⟩,⟨#[98,111,114,97]⟩,⟨#[99,105,109,97]⟩],[⟨⟨#[111,112,112]⟩,1,[[0]],[]⟩,⟨⟨#[114,101,118]⟩,0,[[]],[]⟩,⟨⟨#[105,110,118]⟩,2,[[1]],[]⟩]⟩
def M4:Jc.fatesR=[2,0,0]/\Jc.fatesC=[0,1,0]:=D1
def EH:Jc.difS 1 true=[1,0,2]/\Jc.difS 1 false=[0,1,2]:=D1
def M9:Jc.cans=[(0,1),(0,2),(1,0),(1,2),(2,0),(2,1)]:=D1
def XA(X:List Nat)(n i:Nat):List Nat:=X.take i++replicate (n-i) 0
def wK(X:List Nat)(n:Nat):XA X n 0=replicate n 0:=by simp[XA]
def vA{X:List Nat}{n:Nat}(h:X.length=n):XA X n n=X:=by simp[XA,<- h]
def ja{X:List Nat}{n i x:Nat}(h:X[i]?=some x)(w:X.length=n):(XA X n i).set i x=XA X n (i+1):=by
 obtain⟨b,rfl⟩:=List.getElem?_eq_some_iff.1 h;unfold XA;have e:(X.take i).length=i:=by rw[length_take];omega
 have f:n-i=(n-(i+1))+1:=O1
 rw[set_append_right _ _ O1,e,Nat.sub_self,f,replicate_succ,set_cons_zero,take_succ_eq_append_getElem b,append_assoc];rfl
def gW{X:List Nat}{n i:Nat}(e:X.length=n)(b:i<=n):(XA X n i).length=n:=by
 grind[XA,length_append,length_take,length_replicate]
section
variable(out:Nat->Bool)
def Hh(i:Nat)(af:List Nat)(k:Nat):List Nat:=(range k).foldl (λ af k=>WO out af i k) af
def XQ(n:Nat)(af:List Nat)(i:Nat):List Nat:=(range i).foldl (λ af i=>HK out n af i) af
def DW(i:Nat)(af:List Nat)(k:Nat):Hh out i af (k+1)=WO out (Hh out i af k) i k:=by simp[Hh,range_succ]
def IQ(n i:Nat)(af:List Nat):Hh out i af n=HK out n af i:=rfl
def F5(n:Nat)(af:List Nat)(i:Nat):XQ out n af (i+1)=HK out n (XQ out n af i) i:=by simp[XQ,range_succ]
structure WB(n m:Nat)(af:List Nat):Prop where
 len:af.length=n
 lt:∀x∈af,x<2^m
variable{out}
theorem WB.at{n m:Nat}{af:List Nat}(h:WB n m af)(i:Nat):af.getD i 0<2^m:=by
 rw[getD_eq_getElem?_getD];cases b:af[i]? with
 |none=>grind
 |some x=>exact h.lt x (mem_of_getElem? b)
def WB.one{n m i k:Nat}{af:List Nat}(h:WB n m af):WB n m (WO out af i k):=by
 unfold WO;split
 .refine⟨by simpa using h.len,λ x b=>?_⟩;rcases mem_or_eq_of_mem_set b with b|rfl
  .exact h.lt x b
  .exact Nat.or_lt_two_pow (h.at i) (h.at k)
 .exact h
def WB.to{n m i:Nat}{af:List Nat}(h:WB n m af):∀k,WB n m (Hh out i af k)
 |0=>h
 |k+1=>by rw[DW];exact(WB.to h k).one
def WB.rto{n m:Nat}{af:List Nat}(h:WB n m af):∀i,WB n m (XQ out n af i)
 |0=>h
 |i+1=>by
  rw[F5,<- IQ];exact(WB.rto h i).to n
end
section
variable(b:Bk)(out:Nat->Bool)
def Bk.kpt(j:Nat):List Nat:=(range j).filter λ i=>!out i
theorem Bk.kpt_all:Bk.kpt out b.cs.length=b.kept out:=rfl
variable{out}
def Bk.kpt_in{j:Nat}(h:out j=false):Bk.kpt out (j+1)=Bk.kpt out j++[j]:=by
 unfold Bk.kpt;rw[range_succ,filter_append,filter_cons_of_pos (by simp[h])];rfl
theorem Bk.kpt_out{j:Nat}(h:out j=true):Bk.kpt out (j+1)=Bk.kpt out j:=by
 unfold Bk.kpt;rw[range_succ,filter_append,filter_cons_of_neg (by simp[h])];simp
theorem Bk.kpt_len(j:Nat):(Bk.kpt out j).length<=j:=Nat.le_trans (length_filter_le _ _) S1
theorem Bk.kpt_lt{j k:Nat}(h:k∈Bk.kpt out j):k<j/\out k=false:=by
 grind[Bk.kpt]
def Bk.kpt_nodup(j:Nat):(Bk.kpt out j).Nodup:=nodup_range.filter _
def Bk.afK(out:Nat->Bool)(w j:Nat):List Int:=((range (Bk.kpt out j).length).filter λ q=>w.testBit ((Bk.kpt out j).getD q 0)).map λ(q:Nat)=>(q:Int)
def Bk.afK_len(w j:Nat):(Bk.afK out w j).length<=j:=by
 grind[Bk.afK,length_map,Nat.le_trans,length_filter_le,Bk.kpt_len]
def Bk.afK_out{w j:Nat}(h:out j=true):Bk.afK out w (j+1)=Bk.afK out w j:=by grind[Bk.afK,Bk.kpt_out]
def Bk.afK_in{w j:Nat}(h:out j=false):Bk.afK out w (j+1)=Bk.afK out w j++(if w.testBit j then[((Bk.kpt out j).length:Int)]else[]):=by
 unfold Bk.afK;rw[Bk.kpt_in h,length_append,length_cons,length_nil,range_succ,filter_append,map_append]
 have e:((range (Bk.kpt out j).length).filter λ q=>w.testBit ((Bk.kpt out j++[j]).getD q 0))=(range (Bk.kpt out j).length).filter λ q=>w.testBit ((Bk.kpt out j).getD q 0):=by
  refine filter_congr λ q b=>?_;rw[mem_range]at b;rw[getD_eq_getElem?_getD,getElem?_append_left b,<- getD_eq_getElem?_getD]
 grind
def Bk.wo_cs(b:Bk)(W:List Nat)(e:∀i,i<b.cs.length->∀k,(W.getD i 0).testBit k=QP b.A out b.cs.length i k) :
  (b.wo out).cs=(b.kept out).map λ i=>{ b.cas i with af:=Bk.afK out (W.getD i 0) b.cs.length }:=by
 unfold Bk.wo;refine map_congr_left λ i f=>?_;grind[Bk.kpt_lt,Bk.afK,Bk.kpt_all]
def Bk.A_length(b:Bk):b.A.length=b.cs.length:=by simp[Bk.A]
def Bk.Ok.wlW{b:Bk}(h:b.Ok)(out:Nat->Bool):∀i,i<b.cs.length->∀k,((Gv out b.cs.length b.cs.length (b.A.map Z7)).getD i 0).testBit k=QP b.A out b.cs.length i k:=by
 intro i e k;have:=NJ (A:=b.A) (out:=out) h.low h.lo (i:=i) (k:=k) (by rw[b.A_length];exact e);rw[b.A_length]at this;exact this
end
section
variable{A:List (List Nat)}
def Ew{two:Nat}(f:∀i,i<A.length->∀k∈Je A i,k<A.length)(ρ:Nat->Nat)(h:∀i,i<A.length->∀k∈Je A i,ρ k<ρ i):∀(s i:Nat),i<A.length->Wo A two s i=true->ρ two<ρ i
 |0,_,_,b=>by simp[Wo]at b
 |s+1,i,w,b=>by
  simp only[Wo,any_eq_true,Bool.or_eq_true,beq_iff_eq]at b;obtain⟨k,z,b⟩:=b;have e:=h i w k z;rcases b with rfl|b
  .exact e
  .exact Nat.lt_trans (Ew f ρ h s k (f i w k z) b) e
def qq(e:∀i,i<A.length->∀k∈Je A i,k<A.length)(ρ:Nat->Nat)(h:∀i,i<A.length->∀k∈Je A i,ρ k<ρ i):Wq A=false:=by
 rw[Fg e];cases b:Xx A with
 |false=>rfl
 |true=>
  unfold Xx at b;rw[any_eq_true]at b;obtain⟨i,f,w⟩:=b;exact absurd (Ew e ρ h _ i (by simpa using f) w) (Nat.lt_irrefl _)
def wS(h:Wq A=false):∃ρ:Nat->Nat,∀i,i<A.length->∀k∈Je A i,ρ k<ρ i:=by
 obtain⟨L,f,b⟩:=DM h;refine⟨λ x=>L.length-L.idxOf x,λ i w k z=>?_⟩;obtain⟨X,Y,e⟩:=append_of_mem (b i w);have B:=f.aft X Y i e k z;have E:=f.nod;grind
def E8{out:Nat->Bool}(w:∀i,i<A.length->∀k∈Je A i,k<A.length)(ρ:Nat->Nat)(h:∀i,i<A.length->∀k∈Je A i,ρ k<ρ i):∀(s i k:Nat),i<A.length->QP A out s i k=true->ρ k<ρ i
 |0,i,k,b,e=>h i b k (by grind[QP])
 |s+1,i,k,b,e=>by
  rcases Kq.1 e with e|⟨o,f,B,z⟩
  .simp_all
  .exact Nat.lt_trans (E8 w ρ h s o k (w i b o f) z) (h i b o f)
end
def YE{b:Int}:∀{l:List Int}{p:Option Int},l.Pairwise (· < ·)->(∀x∈l,0<=x/\x<b)->(∀m,p=some m->∀x∈l,m<x)->J1 b p l=0
 |[],_,_,_,_=>rfl
 |n::l,p,F,h,E=>by
  obtain⟨z,B⟩:=pairwise_cons.1 F;have G:=h n S1;have w:=YE (b:=b) (p:=some n) B (λ x f=>h x (by simp[f])) λ m e x f=>by cases e;exact z x f
  rw[Wm,if_pos (by simp only[btw,Bool.and_eq_true,decide_eq_true_eq];omega)];cases p with
  |none=>exact w
  |some m=>
   have:=E m rfl n S1;simp only;rw[if_neg O1];exact w
def Bk.wo_nc(b:Bk)(out:Nat->Bool):(b.wo out).cs.length=(b.kept out).length:=by simp[Bk.wo]
def Bk.wo_aft(b:Bk)(out:Nat->Bool){p:Nat}(f:p<(b.kept out).length):Je (b.wo out).A p=(range (b.kept out).length).filter λ q=>QP b.A out b.cs.length ((b.kept out).getD p 0) ((b.kept out).getD q 0):=by
 have h:(b.wo out).cs[p]?=some { b.cas ((b.kept out).getD p 0)with af:=((range (b.kept out).length).filter λ q=>QP b.A out b.cs.length ((b.kept out).getD p 0) ((b.kept out).getD q 0)).map λ(q:Nat)=>(q:Int) }:=by
  unfold Bk.wo;simp[getD_eq_getElem?_getD,f]
 unfold Je
 have e:(b.wo out).A[p]?=some ((((range (b.kept out).length).filter λ q=>QP b.A out b.cs.length ((b.kept out).getD p 0) ((b.kept out).getD q 0)).map λ(q:Nat)=>(q:Int)).map Int.toNat):=by
  unfold Bk.A;rw[getElem?_map];show Option.map _ (b.wo out).cs[p]?=_;rw[h];rfl
 rw[getD_eq_getElem?_getD,e,Option.getD_some,map_map];have:(Int.toNat ∘ λ(p:Nat)=>(p:Int))=id:=by funext p;simp
 rw[this,map_id]
def Bk.Ok.wo{b:Bk}(h:b.Ok)(out:Nat->Bool):(b.wo out).Ok:=by
 have P:(b.kept out).length<=b.cs.length:=Bk.kpt_len (out:=out) b.cs.length;have E:=b.wo_nc out;have N:=h.nc;have I:∀i∈b.kept out,i<b.cs.length:=λ i f=>(Bk.kpt_lt (j:=b.cs.length) f).1
 have F:∀i∈b.kept out,b.cas i∈b.cs:=λ i f=>by
  simp only[Bk.cas,getD_eq_getElem?_getD,getElem?_eq_getElem (I i f),Option.getD_some];exact getElem_mem _
 have z:∀c∈(b.wo out).cs,∃i∈b.kept out,c={ b.cas i with af:=((range (b.kept out).length).filter λ p=>QP b.A out b.cs.length i ((b.kept out).getD p 0)).map λ(p:Nat)=>(p:Int) }:=by
  intro c w;obtain⟨i,f,rfl⟩:=mem_map.1 w;exact⟨i,f,rfl⟩
 have H:∀i,∀n∈((range (b.kept out).length).filter λ p=>QP b.A out b.cs.length i ((b.kept out).getD p 0)).map (λ(p:Nat)=>(p:Int)),0<=n/\n<(b.wo out).nc:=by
  intro i n M;obtain⟨p,B,rfl⟩:=mem_map.1 M;have:=(mem_filter.1 B).1;rw[mem_range]at this;unfold Bk.nc;rw[E];omega
 refine⟨h.nr,O1,λ c w=>?_,λ c w=>?_,λ c w=>?_,λ c w=>?_,λ c w=>?_,?_⟩
 .obtain⟨i,f,rfl⟩:=z c w;exact h.ag (b.cas i) (F i f)
 .obtain⟨i,f,rfl⟩:=z c w;exact h.gl (b.cas i) (F i f)
 .obtain⟨i,f,rfl⟩:=z c w;exact h.gs (b.cas i) (F i f)
 .obtain⟨i,f,rfl⟩:=z c w;refine YE ?_ (H i) (λ m e=>by cases e);rw[pairwise_map];refine Pairwise.filter _ ?_;refine Pairwise.imp (R:=(· < ·)) (λ h=>O1) pairwise_lt_range
 .obtain⟨i,f,rfl⟩:=z c w;exact H i
 .obtain⟨ρ,hρ⟩:=wS h.lo;have G:(b.wo out).A.length=(b.kept out).length:=by rw[Bk.A_length,E]
  have L:∀p,p<(b.kept out).length->(b.kept out).getD p 0<b.A.length:=λ p B=>by
   rw[Bk.A_length];refine I _ ?_;simp only[getD_eq_getElem?_getD,getElem?_eq_getElem B,Option.getD_some];exact getElem_mem _
  refine qq (λ p B q K=>?_) (λ p=>ρ ((b.kept out).getD p 0)) λ p B q K=>?_
  .rw[G]at B ⊢;rw[b.wo_aft out B,mem_filter,mem_range]at K;exact K.1
  .rw[G]at B;rw[b.wo_aft out B,mem_filter,mem_range]at K;exact E8 h.low ρ hρ _ _ _ (L p B) K.2
end Go.TM

