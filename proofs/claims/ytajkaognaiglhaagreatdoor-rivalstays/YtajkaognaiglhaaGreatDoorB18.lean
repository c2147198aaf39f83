/- Lemmas. No conditions. -/
import Derived.Test.YtajkaognaiglhaaGreatDoorB17
set_option linter.all false
open List
namespace Go.TM
variable{T:Type}{l:List ByteArray}{s:ByteArray}{nameB:ByteArray->Bool}{X:List Nat}{n i j:Nat}
structure Cs where
 nm:ByteArray
 ag:Int
 gs:List (List Int)
 af:List Int
structure Bk where
 rs:List ByteArray
 cs:List Cs
variable{b:Bk}
structure BH where
 ra:Option Addr
 rl:Nat
 rc:Nat
 ca:Option Addr
 cl:Nat
 cc:Nat
theorem Zz4{U:Qa T}{b:Nat}(h:BH)(e:Zo U b #[.slice h.ra h.rl h.rc,.slice h.ca h.cl h.cc]):Zo U b #[.slice h.ra h.rl h.rc,.slice h.ca h.cl h.cc]:=e
abbrev BH.v(h:BH):Value:=.agg #[.slice h.ra h.rl h.rc,.slice h.ca h.cl h.cc]
def Wt(U:Qa T)(a:Option Addr)(len:Nat)(w:List (List Int)):Prop:=Zd U a len 1 w λ l vs=>∃a' e f,vs=[.slice a' e f]/\Z8 U a' e l/\e<2^60
def Wt.lg{U U':Qa T}{a:Option Addr}{len:Nat}{B:List (List Int)}(h:Wt U a len B)(z:U.lg U'):Wt U' a len B:=
 Zd.lg h z λ _ _⟨a',w,f,e,E,F⟩=>⟨a',w,f,e,E.lg z,F⟩
def PK(U:Qa T)(c:Cs)(vs:List Value):Prop:=
 ∃ga gl gc e al ac,vs=[.string c.nm,.int .i64 c.ag,.slice ga gl gc,.slice e al ac]/\Wt U ga gl c.gs/\gl<2^60/\Z8 U e al c.af/\al<2^60
def PK.lg{U U':Qa T}{c:Cs}{vs:List Value}(h:PK U c vs)(f:U.lg U'):PK U' c vs:=
 let ⟨ga,gl,gc,aa,al,ac,e,h1,h2,h3,h4⟩:=h;⟨ga,gl,gc,aa,al,ac,e,h1.lg f,h2,h3.lg f,h4⟩
structure Zu(U:Qa T)(h:BH)(b:Bk):Prop where
 rs:Zd U h.ra h.rl 1 b.rs λ s vs=>vs=[.string s]
 cs:Zd U h.ca h.cl 4 b.cs (PK U)
 rl:h.rl<2^60
 cl:h.cl<2^60
 rn:∀s∈b.rs,s.size<2^60
 cn:∀c∈b.cs,c.nm.size<2^60
def Zu.lg{U U':Qa T}{h:BH}{b:Bk}(k:Zu U h b)(e:U.lg U'):Zu U' h b:=
 ⟨k.rs.lg e λ _ _ h=>h,k.cs.lg e λ _ _ h=>h.lg e,k.rl,k.cl,k.rn,k.cn⟩
instance decBA:DecidableEq ByteArray:=λ a b=>decidable_of_iff (a.data=b.data) ⟨λ h=>by cases a;cases b;simp_all,λ h=>by rw[h]⟩
def ZB(b:Int):Option Int->List Int->Int
 |_,[]=>0
 |p,n::l=>if Q_ n 0 (b-1)then(match p with|some m=>if n<=m then 7 else ZB b (some n) l|none=>ZB b (some n) l)else 6
def Pm(b:Int)(p:Option Int)(n:Int)(l:List Int):ZB b p (n::l)=if Q_ n 0 (b-1)then(match p with|some m=>if n<=m then 7 else ZB b (some n) l|none=>ZB b (some n) l)else 6:=rfl
def JK(l:List ByteArray)(s:ByteArray):Bool:=l.any λ x=>decide (x=s)
def Zco:JK l s=true↔s∈l:=by
 simp only[JK,any_eq_true,decide_eq_true_eq];exact⟨λ⟨x,h,e⟩=>e▸h,λ h=>⟨s,h,rfl⟩⟩
def G8(nameB:ByteArray->Bool):List ByteArray->List ByteArray->Int
 |_,[]=>0
 |seen,s::l=>if nameB s then(if JK seen s then 5 else G8 nameB (seen++[s]) l)else 4
def Hy(nr:Int):List (List Int)->Int
 |[]=>0
 |g::l=>if g.length > 3 then 2 else if ZB nr none g=0 then Hy nr l else ZB nr none g
def H9(nr:Int)(g:List (List Int)):Int:=if g.length > 3 then 2 else Hy nr g
def Hw(nameB:ByteArray->Bool)(nr nc:Int):List ByteArray->List Cs->Int
 |_,[]=>0
 |seen,c::l=>if nameB c.nm then(if JK seen c.nm then 5 else
   if Q_ c.ag 0 (nr-1)then(if H9 nr c.gs=0 then(if ZB nc none c.af=0 then Hw nameB nr nc (seen++[c.nm]) l else ZB nc none c.af)else H9 nr c.gs)else 6)else 4
def Bk.nr(b:Bk):Int:=b.rs.length
def Bk.nc(b:Bk):Int:=b.cs.length
def Bk.A(b:Bk):List (List Nat):=b.cs.map λ c=>c.af.map Int.toNat
def Bk.rsF(nameB:ByteArray->Bool)(b:Bk):Int:=if b.rs.length > 6 then 2 else G8 nameB [] b.rs
def Bk.csF(nameB:ByteArray->Bool)(b:Bk):Int:=if b.cs.length > 5 then 2 else Hw nameB b.nr b.nc [] b.cs
def Bk.flaw(nameB:ByteArray->Bool)(b:Bk):Int:=if b.rsF nameB=0 then(if b.csF nameB=0 then(if W4 b.A then 8 else 0)else b.csF nameB)else b.rsF nameB
def K4{b:Int}:∀{l:List Int}{p:Option Int},ZB b p l=0->∀n∈l,0<=n/\n<b
 |[],_,_,n,e=>by cases e
 |x::l,p,h,n,e=>by
  rw[Pm]at h;by_cases f:Q_ x 0 (b-1)=true
  .rw[if_pos f]at h
   have z:0<=x/\x<b:=by
    simp only[Q_,Bool.and_eq_true,decide_eq_true_eq]at f;omega
   have w:ZB b (some x) l=0:=by
    cases p with
    |none=>exact h
    |some m=>
     simp only at h;split at h
     .cases h
     .exact h
   rcases mem_cons.1 e with rfl|e
   .exact z
   .exact K4 w n e
  .rw[if_neg f]at h;cases h
def YZ{nameB:ByteArray->Bool}{nr nc:Int}:∀{l:List Cs}{seen:List ByteArray},Hw nameB nr nc seen l=0->∀c∈l,(0<=c.ag/\c.ag<nr)/\H9 nr c.gs=0/\ZB nc none c.af=0
 |[],_,_,c,e=>by cases e
 |x::l,seen,h,c,e=>by
  simp only[Hw]at h;split at h
  .split at h
   .cases h
   .split at h
    .rename_i hag;split at h
     .rename_i hg;split at h
      .rename_i hr;rcases mem_cons.1 e with rfl|e
       .simp only[Q_,Bool.and_eq_true,decide_eq_true_eq]at hag;exact⟨O1,hg,hr⟩
       .exact YZ h c e
      .rename_i hr;exact absurd h hr
     .rename_i hg;exact absurd h hg
    .cases h
  .cases h
def T0{nr:Int}:∀{l:List (List Int)},Hy nr l=0->∀g∈l,g.length<=3/\ZB nr none g=0
 |[],_,g,e=>by cases e
 |x::l,h,g,e=>by
  simp only[Hy]at h;split at h
  .cases h
  .split at h
   .rename_i hr;rcases mem_cons.1 e with rfl|e
    .exact⟨O1,hr⟩
    .exact T0 h g e
   .rename_i hr;exact absurd h hr
structure Bk.Ok(b:Bk):Prop where
 nr:b.rs.length<=6
 nc:b.cs.length<=5
 ag:∀c∈b.cs,0<=c.ag/\c.ag<b.nr
 gl:∀c∈b.cs,c.gs.length<=3
 gs:∀c∈b.cs,∀g∈c.gs,g.length<=3/\∀n∈g,0<=n/\n<b.nr
 ri:∀c∈b.cs,ZB b.nc none c.af=0
 af:∀c∈b.cs,∀n∈c.af,0<=n/\n<b.nc
 lo:W4 b.A=false
def Bk.ok_of(h:b.flaw nameB=0):b.Ok:=by
 unfold Bk.flaw at h;split at h
 .rename_i h1;split at h
  .rename_i h2;split at h
   .cases h
   .rename_i h3;unfold Bk.rsF at h1;unfold Bk.csF at h2;split at h1
    .cases h1
    .split at h2
     .cases h2
     .have hin:=YZ h2
      have w:∀c∈b.cs,c.gs.length<=3/\∀g∈c.gs,g.length<=3/\ZB b.nr none g=0:=by
       intro c e;have:=(hin c e).2.1;unfold H9 at this;split at this
       .cases this
       .exact⟨O1,T0 this⟩
      exact⟨O1,O1,λ c e=>(hin c e).1,λ c e=>(w c e).1,λ c e g f=>⟨((w c e).2 g f).1,K4 ((w c e).2 g f).2⟩,λ c e=>(hin c e).2.2,λ c e=>K4 (hin c e).2.2,by simpa using h3⟩
  .rename_i h2;exact absurd h h2
 .rename_i h1;exact absurd h h1
def Bk.Ok.low(h:b.Ok):∀i,i<b.A.length->∀k∈Jd b.A i,k<b.A.length:=by
 intro i e k f;simp only[Bk.A,length_map]at e ⊢;simp only[Jd,Bk.A,getD_eq_getElem?_getD,getElem?_map,getElem?_eq_getElem e,Option.map_some,Option.getD_some,mem_map]at f;obtain⟨n,w,rfl⟩:=f;have:=h.af _ (getElem_mem e) n w;unfold Bk.nc at this;omega
instance:Inhabited Cs:=⟨⟨⟨#[]⟩,0,[],[]⟩⟩
def Bk.cas(b:Bk)(i:Nat):Cs:=b.cs.getD i default
def EH(gs:List (List Int))(s:List Bool):Bool:=gs.any λ g=>g.all λ r=>s.getD r.toNat false
def Bk.stp(b:Bk)(x:List Bool×List Bool)(i:Nat):List Bool×List Bool:=if EH (b.cas i).gs x.1 then(x.1.set (b.cas i).ag.toNat false,x.2.set i true)else x
def Bk.ini(b:Bk):List Bool×List Bool:=(replicate b.rs.length true,replicate b.cs.length false)
def Bk.ends(b:Bk)(o:List Nat):List Bool×List Bool:=o.foldl b.stp b.ini
def Bk.ends_snoc(b:Bk)(o:List Nat)(i:Nat):b.ends (o++[i])=b.stp (b.ends o) i:=by simp[Bk.ends]
def Bk.can(b:Bk)(o:List Nat)(i:Nat):Bool:=!o.contains i&&(Jd b.A i).all λ k=>o.contains k
def Bk.ords(b:Bk):Nat->List Nat->List (List Nat)
 |0,o=>[o]
 |k+1,o=>(range b.cs.length).flatMap λ i=>if b.can o i then b.ords k (o++[i])else[]
def Bk.all(b:Bk):List (List Nat):=b.ords b.cs.length []
def Bk.ordL(b:Bk):List Nat->List Int->Int
 |_,[]=>0
 |o,i::l=>if Q_ i 0 (b.nc-1)then(if i.toNat∈o then 5 else if(Jd b.A i.toNat).all (λ k=>o.contains k)then b.ordL (o++[i.toNat]) l else 7)else 6
def Bk.ordF(b:Bk)(l:List Int):Int:=if l.length≠b.cs.length then 2 else b.ordL [] l
def WC(e all:Nat):Int:=if e=all then 1 else if e=0 then 2 else 0
def Bk.fatR(b:Bk)(r:Nat):Int:=WC (b.all.countP λ o=>(b.ends o).1.getD r false) b.all.length
def Bk.fatC(b:Bk)(i:Nat):Int:=WC (b.all.countP λ o=>(b.ends o).2.getD i false) b.all.length
def Bk.fatesR(b:Bk):List Int:=(range b.rs.length).map b.fatR
def Bk.fatesC(b:Bk):List Int:=(range b.cs.length).map b.fatC
def Bk.difS(b:Bk)(r:Nat)(w:Bool):List Nat:=(b.all.find? λ o=>(b.ends o).1.getD r false==w).getD []
def Bk.kept(b:Bk)(out:Nat->Bool):List Nat:=(range b.cs.length).filter λ i=>!out i
def Bk.wo(b:Bk)(out:Nat->Bool):Bk:=
 ⟨b.rs,(b.kept out).map λ i=>{ b.cas i with af:=((range (b.kept out).length).filter λ p=>QU b.A out b.cs.length i ((b.kept out).getD p 0)).map λ(p:Nat)=>(p:Int) }⟩
def ZI(n:Int):List Int->List Int
 |[]=>[n]
 |x::l=>if x<n then x::ZI n l else n::x::l
def Bk.sty(b:Bk)(s:Int×Int):Bk:=⟨b.rs,b.cs.set s.1.toNat { b.cas s.1.toNat with af:=ZI s.2 (b.cas s.1.toNat).af }⟩
def Bk.stys(b:Bk)(l:List (Int×Int)):Bk:=l.foldl Bk.sty b
def Bk.cans(b:Bk):List (Int×Int):=(range b.cs.length).flatMap λ(i:Nat)=>(((range b.cs.length).filter λ k=>k != i&&!(b.cas i).af.contains (k:Int)).map λ(k:Nat)=>((i:Int),(k:Int)))
def Wc:Bk:=⟨[⟨#[97,122,117,114]⟩,⟨#[98,111,114,97]⟩,⟨#[99,105,109,97]⟩],[⟨⟨#[111,112,112]⟩,1,[[0]],[]⟩,⟨⟨#[114,101,118]⟩,0,[[]],[]⟩,⟨⟨#[105,110,118]⟩,2,[[1]],[]⟩]⟩
def SK:Wc.fatesR=[2,0,0]/\Wc.fatesC=[0,1,0]:=D1
def Ed:Wc.difS 1 true=[1,0,2]/\Wc.difS 1 false=[0,1,2]:=D1
def XJ(X:List Nat)(n i:Nat):List Nat:=X.take i++replicate (n-i) 0
def C0(X:List Nat)(n:Nat):XJ X n 0=replicate n 0:=by simp[XJ]
def FL(h:X.length=n):XJ X n n=X:=by simp[XJ,<- h]
def FN(z:X[i]?=some j)(B:X.length=n):(XJ X n i).set i j=XJ X n (i+1):=by
 obtain⟨e,rfl⟩:=List.getElem?_eq_some_iff.1 z;unfold XJ;have f:(X.take i).length=i:=by rw[length_take];omega
 have w:n-i=(n-(i+1))+1:=O1
 rw[set_append_right _ _ O1,f,Nat.sub_self,w,replicate_succ,set_cons_zero,take_succ_eq_append_getElem e,append_assoc];rfl
def FM(f:X.length=n)(e:i<=n):(XJ X n i).length=n:=by
 unfold XJ;rw[length_append,length_take,length_replicate];omega
section
variable(out:Nat->Bool)
def HA(i:Nat)(af:List Nat)(k:Nat):List Nat:=(range k).foldl (λ af k=>WX out af i k) af
def XR(n:Nat)(af:List Nat)(i:Nat):List Nat:=(range i).foldl (λ af i=>G1 out n af i) af
def Dk(i:Nat)(af:List Nat)(k:Nat):HA out i af (k+1)=WX out (HA out i af k) i k:=by simp[HA,range_succ]
def Ev(n i:Nat)(af:List Nat):HA out i af n=G1 out n af i:=rfl
def Dm(n:Nat)(af:List Nat)(i:Nat):XR out n af (i+1)=G1 out n (XR out n af i) i:=by simp[XR,range_succ]
structure WB(n m:Nat)(af:List Nat):Prop where
 len:af.length=n
 lt:∀x∈af,x<2^m
end
variable{m:Nat}{o:List Nat}
section
variable(out:Nat->Bool)
variable{out}
def WB.at(h:WB n m o)(i:Nat):o.getD i 0<2^m:=by
 rw[getD_eq_getElem?_getD];cases e:o[i]? with
 |none=>exact Nat.two_pow_pos m
 |some x=>exact h.lt x (mem_of_getElem? e)
def WB.one(h:WB n m o):WB n m (WX out o i j):=by
 unfold WX;split
 .refine⟨by simpa using h.len,λ x e=>?_⟩;rcases mem_or_eq_of_mem_set e with e|rfl
  .exact h.lt x e
  .exact Nat.or_lt_two_pow (h.at i) (h.at j)
 .exact h
def WB.to{n m i:Nat}{af:List Nat}(h:WB n m af):∀k,WB n m (HA out i af k)
 |0=>h
 |k+1=>by rw[Dk];exact(WB.to h k).one
def WB.rto{n m:Nat}{af:List Nat}(h:WB n m af):∀i,WB n m (XR out n af i)
 |0=>h
 |i+1=>by
  rw[Dm,<- Ev];exact(WB.rto h i).to n
end
section
variable(b:Bk)(out:Nat->Bool)
def Bk.kpt(j:Nat):List Nat:=(range j).filter λ i=>!out i
def Bk.kpt_all:Bk.kpt out b.cs.length=b.kept out:=rfl
end
variable{w:Nat}
section
variable(b:Bk)(out:Nat->Bool)
variable{out}
def Bk.kpt_in(h:out j=false):Bk.kpt out (j+1)=Bk.kpt out j++[j]:=by
 unfold Bk.kpt;rw[range_succ,filter_append,filter_cons_of_pos (by simp[h])];rfl
def Bk.kpt_out(h:out j=true):Bk.kpt out (j+1)=Bk.kpt out j:=by
 unfold Bk.kpt;rw[range_succ,filter_append,filter_cons_of_neg (by simp[h])];simp
def Bk.kpt_len(j:Nat):(Bk.kpt out j).length<=j:=Nat.le_trans (length_filter_le _ _) S1
def Bk.kpt_lt(h:i∈Bk.kpt out j):i<j/\out i=false:=by
 unfold Bk.kpt at h;simpa using h
def Bk.kpt_nodup(j:Nat):(Bk.kpt out j).Nodup:=nodup_range.filter _
def Bk.afK(out:Nat->Bool)(w j:Nat):List Int:=((range (Bk.kpt out j).length).filter λ q=>w.testBit ((Bk.kpt out j).getD q 0)).map λ(q:Nat)=>(q:Int)
def Bk.afK_len(w j:Nat):(Bk.afK out w j).length<=j:=by
 unfold Bk.afK;rw[length_map];exact Nat.le_trans (length_filter_le _ _) (by simpa using Bk.kpt_len j)
def Bk.afK_out(h:out j=true):Bk.afK out w (j+1)=Bk.afK out w j:=by unfold Bk.afK;rw[Bk.kpt_out h]
def Bk.afK_in(h:out j=false):Bk.afK out w (j+1)=Bk.afK out w j++(if w.testBit j then[((Bk.kpt out j).length:Int)]else[]):=by
 unfold Bk.afK;rw[Bk.kpt_in h,length_append,length_cons,length_nil,range_succ,filter_append,map_append]
 have B:((range (Bk.kpt out j).length).filter λ q=>w.testBit ((Bk.kpt out j++[j]).getD q 0))=(range (Bk.kpt out j).length).filter λ q=>w.testBit ((Bk.kpt out j).getD q 0):=by
  refine filter_congr λ q z=>?_;rw[mem_range]at z;rw[getD_eq_getElem?_getD,getElem?_append_left z,<- getD_eq_getElem?_getD]
 have e:(Bk.kpt out j++[j]).getD (Bk.kpt out j).length 0=j:=by simp[getD_eq_getElem?_getD]
 rw[B];congr 1;cases f:w.testBit j with
 |true=>rw[filter_cons_of_pos (by rw[e];exact f)];simp
 |false=>rw[filter_cons_of_neg (by rw[e,f];simp)];simp
def Bk.wo_cs(b:Bk)(W:List Nat)(f:∀i,i<b.cs.length->∀k,(W.getD i 0).testBit k=QU b.A out b.cs.length i k) :
  (b.wo out).cs=(b.kept out).map λ i=>{ b.cas i with af:=Bk.afK out (W.getD i 0) b.cs.length }:=by
 unfold Bk.wo;refine map_congr_left λ i w=>?_;have e:i<b.cs.length:=(Bk.kpt_lt (j:=b.cs.length) w).1;unfold Bk.afK;rw[Bk.kpt_all];simp only[f i e]
def Bk.A_length(b:Bk):b.A.length=b.cs.length:=by simp[Bk.A]
def Bk.Ok.wlW{b:Bk}(h:b.Ok)(out:Nat->Bool):∀i,i<b.cs.length->∀k,((GR out b.cs.length b.cs.length (b.A.map Ja)).getD i 0).testBit k=QU b.A out b.cs.length i k:=by
 intro i e k;have:=qm (A:=b.A) (out:=out) h.low h.lo (i:=i) (k:=k) (by rw[b.A_length];exact e);rw[b.A_length]at this;exact this
end
variable{a:List (List Nat)}
def D8{two:Nat}(w:∀i,i<a.length->∀k∈Jd a i,k<a.length)(ρ:Nat->Nat)(h:∀i,i<a.length->∀k∈Jd a i,ρ k<ρ i):∀(s i:Nat),i<a.length->WL a two s i=true->ρ two<ρ i
 |0,_,_,e=>by simp[WL]at e
 |s+1,i,z,e=>by
  simp only[WL,any_eq_true,Bool.or_eq_true,beq_iff_eq]at e;obtain⟨k,B,e⟩:=e;have f:=h i z k B;rcases e with rfl|e
  .exact f
  .exact Nat.lt_trans (D8 w ρ h s k (w i z k B) e) f
def Cx(f:∀i,i<a.length->∀k∈Jd a i,k<a.length)(ρ:Nat->Nat)(h:∀i,i<a.length->∀k∈Jd a i,ρ k<ρ i):W4 a=false:=by
 rw[M0 f];cases e:GC a with
 |false=>rfl
 |true=>
  unfold GC at e;rw[any_eq_true]at e;obtain⟨i,w,z⟩:=e;exact absurd (D8 f ρ h _ i (by simpa using w) z) (Nat.lt_irrefl _)
def Nc(h:W4 a=false):∃ρ:Nat->Nat,∀i,i<a.length->∀k∈Jd a i,ρ k<ρ i:=by
 obtain⟨L,I,w⟩:=YQ h;refine⟨λ x=>L.length-L.idxOf x,λ i M k N=>?_⟩;obtain⟨X,Y,e⟩:=append_of_mem (w i M);have f:=I.aft X Y i e k N;have K:=I.nod;rw[e,nodup_append]at K;obtain⟨P,H,z⟩:=K;have B:i∉X:=λ G=>z i G i S1 rfl;have E:k∉X:=λ G=>z k G k (by simp[f]) rfl;have F:k≠i:=λ e'=>(nodup_cons.1 H).1 (e'▸f)
 have Q:L.idxOf i=X.length:=by
  rw[e,idxOf_append,if_neg B];simp
 have S:L.idxOf k=X.length+(Y.idxOf k+1):=by
  rw[e,idxOf_append,if_neg E,idxOf_cons,show(i==k)=false by simpa using F.symm];simp only[cond_false];omega
 have T:Y.idxOf k<Y.length:=idxOf_lt_length_of_mem f;have U:L.length=X.length+(Y.length+1):=by rw[e];simp
 show L.length-L.idxOf k<L.length-L.idxOf i;omega
def Uq{out:Nat->Bool}(z:∀i,i<a.length->∀k∈Jd a i,k<a.length)(ρ:Nat->Nat)(h:∀i,i<a.length->∀k∈Jd a i,ρ k<ρ i):∀(s i k:Nat),i<a.length->QU a out s i k=true->ρ k<ρ i
 |0,i,k,e,f=>h i e k (by simpa[QU]using f)
 |s+1,i,k,e,f=>by
  rcases VF.1 f with f|⟨o,w,E,B⟩
  .exact h i e k (by simpa using f)
  .exact Nat.lt_trans (Uq z ρ h s o k (z i e o w) B) (h i e o w)
def O9{b:Int}:∀{l:List Int}{p:Option Int},l.Pairwise (· < ·)->(∀x∈l,0<=x/\x<b)->(∀m,p=some m->∀x∈l,m<x)->ZB b p l=0
 |[],_,_,_,_=>rfl
 |n::l,p,G,w,F=>by
  obtain⟨B,E⟩:=pairwise_cons.1 G;have H:=w n S1;have z:=O9 (b:=b) (p:=some n) E (λ x f=>w x (by simp[f])) λ m e x f=>by cases e;exact B x f
  rw[Pm,if_pos (by simp only[Q_,Bool.and_eq_true,decide_eq_true_eq];omega)];cases p with
  |none=>exact z
  |some m=>
   have:=F m rfl n S1;simp only;rw[if_neg O1];exact z
def Bk.wo_nc(b:Bk)(out:Nat->Bool):(b.wo out).cs.length=(b.kept out).length:=by simp[Bk.wo]
def Bk.wo_aft(b:Bk)(out:Nat->Bool)(f:i<(b.kept out).length):Jd (b.wo out).A i=(range (b.kept out).length).filter λ q=>QU b.A out b.cs.length ((b.kept out).getD i 0) ((b.kept out).getD q 0):=by
 have w:(b.wo out).cs[i]?=some { b.cas ((b.kept out).getD i 0)with af:=((range (b.kept out).length).filter λ q=>QU b.A out b.cs.length ((b.kept out).getD i 0) ((b.kept out).getD q 0)).map λ(q:Nat)=>(q:Int) }:=by
  unfold Bk.wo;simp[getD_eq_getElem?_getD,f]
 unfold Jd
 have e:(b.wo out).A[i]?=some ((((range (b.kept out).length).filter λ q=>QU b.A out b.cs.length ((b.kept out).getD i 0) ((b.kept out).getD q 0)).map λ(q:Nat)=>(q:Int)).map Int.toNat):=by
  unfold Bk.A;rw[getElem?_map];show Option.map _ (b.wo out).cs[i]?=_;rw[w];rfl
 rw[getD_eq_getElem?_getD,e,Option.getD_some,map_map];have:(Int.toNat ∘ λ(i:Nat)=>(i:Int))=id:=by funext i;simp
 rw[this,map_id]
def Bk.Ok.wo{b:Bk}(h:b.Ok)(out:Nat->Bool):(b.wo out).Ok:=by
 have P:(b.kept out).length<=b.cs.length:=Bk.kpt_len (out:=out) b.cs.length;have E:=b.wo_nc out;have N:=h.nc;have I:∀i∈b.kept out,i<b.cs.length:=λ i f=>(Bk.kpt_lt (j:=b.cs.length) f).1
 have F:∀i∈b.kept out,b.cas i∈b.cs:=λ i f=>by
  simp only[Bk.cas,getD_eq_getElem?_getD,getElem?_eq_getElem (I i f),Option.getD_some];exact getElem_mem _
 have z:∀c∈(b.wo out).cs,∃i∈b.kept out,c={ b.cas i with af:=((range (b.kept out).length).filter λ p=>QU b.A out b.cs.length i ((b.kept out).getD p 0)).map λ(p:Nat)=>(p:Int) }:=by
  intro c w;obtain⟨i,f,rfl⟩:=mem_map.1 w;exact⟨i,f,rfl⟩
 have H:∀i,∀n∈((range (b.kept out).length).filter λ p=>QU b.A out b.cs.length i ((b.kept out).getD p 0)).map (λ(p:Nat)=>(p:Int)),0<=n/\n<(b.wo out).nc:=by
  intro i n M;obtain⟨p,B,rfl⟩:=mem_map.1 M;have:=(mem_filter.1 B).1;rw[mem_range]at this;unfold Bk.nc;rw[E];omega
 refine⟨h.nr,O1,λ c w=>?_,λ c w=>?_,λ c w=>?_,λ c w=>?_,λ c w=>?_,?_⟩
 .obtain⟨i,f,rfl⟩:=z c w;exact h.ag (b.cas i) (F i f)
 .obtain⟨i,f,rfl⟩:=z c w;exact h.gl (b.cas i) (F i f)
 .obtain⟨i,f,rfl⟩:=z c w;exact h.gs (b.cas i) (F i f)
 .obtain⟨i,f,rfl⟩:=z c w;refine O9 ?_ (H i) (λ m e=>by cases e);rw[pairwise_map];refine Pairwise.filter _ ?_;refine Pairwise.imp (R:=(· < ·)) (λ h=>O1) pairwise_lt_range
 .obtain⟨i,f,rfl⟩:=z c w;exact H i
 .obtain⟨ρ,hρ⟩:=Nc h.lo;have G:(b.wo out).A.length=(b.kept out).length:=by rw[Bk.A_length,E]
  have L:∀p,p<(b.kept out).length->(b.kept out).getD p 0<b.A.length:=λ p B=>by
   rw[Bk.A_length];refine I _ ?_;simp only[getD_eq_getElem?_getD,getElem?_eq_getElem B,Option.getD_some];exact getElem_mem _
  refine Cx (λ p B q K=>?_) (λ p=>ρ ((b.kept out).getD p 0)) λ p B q K=>?_
  .rw[G]at B ⊢;rw[b.wo_aft out B,mem_filter,mem_range]at K;exact K.1
  .rw[G]at B;rw[b.wo_aft out B,mem_filter,mem_range]at K;exact Uq h.low ρ hρ _ _ _ (L p B) K.2
def Bk.okTo(b:Bk):List Nat->List Nat->Bool
 |_,[]=>true
 |p,i::q=>decide (i<b.cs.length)&&b.can p i&&b.okTo (p++[i]) q
def Bk.mem_ords:∀(k:Nat)(p o:List Nat),o∈b.ords k p↔∃q,o=p++q/\q.length=k/\b.okTo p q=true
 |0,p,o=>by
  simp only[Bk.ords,mem_singleton];constructor
  .rintro rfl;exact⟨[],S1,rfl,rfl⟩
  .rintro⟨q,rfl,e,-⟩;rw[length_eq_zero_iff]at e;simp[e]
 |k+1,p,o=>by
  simp only[Bk.ords,mem_flatMap,mem_range];constructor
  .rintro⟨i,hi,ho⟩;split at ho
   .rename_i hc;obtain⟨q,rfl,e,f⟩:=(Bk.mem_ords k (p++[i]) o).1 ho;exact⟨i::q,S1,by simp[e],by simp[Bk.okTo,hi,hc,f]⟩
   .cases ho
  .rintro⟨q,rfl,e,f⟩;cases q with
   |nil=>cases e
   |cons i q=>
    simp only[Bk.okTo,Bool.and_eq_true,decide_eq_true_eq]at f;refine⟨i,f.1.1,?_⟩;rw[if_pos f.1.2];exact(Bk.mem_ords k (p++[i]) _).2 ⟨q,S1,by simpa using e,f.2⟩
def Bk.mem_all:o∈b.all↔o.length=b.cs.length/\b.okTo [] o=true:=by
 unfold Bk.all;rw[Bk.mem_ords];constructor
 .rintro⟨q,rfl,hq,hk⟩;exact⟨hq,hk⟩
 .rintro⟨h1,h2⟩;exact⟨o,rfl,h1,h2⟩
def Bk.okTo_iff:∀(q p:List Nat),b.okTo p q=true↔∀X i Y,q=X++i::Y->i<b.cs.length/\b.can (p++X) i=true
 |[],p=>by simp[Bk.okTo]
 |i::q,p=>by
  simp only[Bk.okTo,Bool.and_eq_true,decide_eq_true_eq];rw[Bk.okTo_iff q (p++[i])];constructor
  .rintro⟨⟨h1,h2⟩,h3⟩ X j Y e;cases X with
   |nil=>
    simp only[nil_append,List.cons.injEq]at e;obtain⟨rfl,rfl⟩:=e;simpa using⟨h1,h2⟩
   |cons x X=>
    simp only[cons_append,List.cons.injEq]at e;obtain⟨rfl,rfl⟩:=e;have:=h3 X j Y rfl;simpa using this
  .intro h;refine⟨by simpa using h [] i q rfl,λ X j Y e=>?_⟩;have:=h (i::X) j Y (by simp[e]);simpa using this
def Bk.can_iff:b.can o i=true↔i∉o/\∀k∈Jd b.A i,k∈o:=by
 simp[Bk.can]
structure Bk.Ord(b:Bk)(o:List Nat):Prop where
 len:o.length=b.cs.length
 low:∀i∈o,i<b.cs.length
 nod:o.Nodup
 aft:∀X i Y,o=X++i::Y->∀k∈Jd b.A i,k∈X
def Bz:∀{o:List Nat},(∀X i Y,o=X++i::Y->i∉X)->o.Nodup:=by
 intro o h;rw[nodup_iff_pairwise_ne,pairwise_iff_getElem];intro i j w z f e;refine h (o.take j) o[j] (o.drop (j+1)) (by rw[getElem_cons_drop,take_append_drop]) ?_;rw[<- e,mem_take_iff_getElem];exact⟨i,O1,rfl⟩
def Bk.mem_all_iff:o∈b.all↔b.Ord o:=by
 rw[Bk.mem_all,Bk.okTo_iff];simp only[nil_append];constructor
 .rintro⟨h1,h2⟩;refine⟨h1,λ i w=>?_,Bz λ X i Y e=>(Bk.can_iff.1 (h2 X i Y e).2).1,λ X i Y e=>(Bk.can_iff.1 (h2 X i Y e).2).2⟩;obtain⟨X,Y,e⟩:=append_of_mem w;exact(h2 X i Y e).1
 .intro h;refine⟨h.len,λ X i Y e=>⟨h.low i (by rw[e];simp),Bk.can_iff.2 ⟨λ z=>?_,h.aft X i Y e⟩⟩⟩;have f:=h.nod;rw[e]at f;exact(nodup_append.1 f).2.2 i z i (mem_cons_self ..) rfl
def CU(h:∀i,i<n->i∈o):n<=o.length:=by
 have key:∀(n:Nat)(o:List Nat),(∀i,i<n->i∈o)->n<=o.length:=by
  intro n
  induction n with
  |zero=>intro o _;exact Nat.zero_le _
  |succ n f=>
   intro o h;obtain⟨X,Y,e⟩:=append_of_mem (h n O1)
   have:=f (X++Y) λ i w=>by
    have:=h i O1;rw[e]at this;simp only[mem_append,mem_cons]at this ⊢;rcases this with h|h|h
    .exact .inl h
    .omega
    .exact .inr h
   rw[e];simp at this ⊢;omega
 exact key n o h
def Bk.A_n(b:Bk):b.A.length=b.cs.length:=by simp[Bk.A]
def Bk.Ok.ord(h:b.Ok):∃o,b.Ord o:=by
 obtain⟨L,w,f⟩:=YQ h.lo;rw[b.A_n]at f;refine⟨L.reverse,?_,λ i z=>by rw[<- b.A_n];exact w.low i (by simpa using z),(by unfold Nodup;rw[pairwise_reverse];exact w.nod.imp Ne.symm),λ X i Y e k B=>?_⟩
 .rw[length_reverse];have F:=Xi w.nod (n:=b.cs.length) λ x E=>by rw[<- b.A_n];exact w.low x E
  have G:=CU f;omega
 .have e':L=Y.reverse++i::X.reverse:=by
   rw[<- reverse_reverse L,e];simp
  have:=w.aft _ _ _ e' k B;simpa using this
def Bk.Ord.has(h:b.Ord o)(w:i<b.cs.length):i∈o:=by
 apply Classical.byContradiction;intro z;have f:(i::o).Nodup:=nodup_cons.2 ⟨z,h.nod⟩
 have:=Xi f (n:=b.cs.length) λ x e=>by
  rcases mem_cons.1 e with rfl|e
  .exact w
  .exact h.low x e
 rw[length_cons,h.len]at this;omega
def Bk.Ok.all_pos(h:b.Ok):0<b.all.length:=by
 obtain⟨o,e⟩:=h.ord;exact length_pos_of_mem (Bk.mem_all_iff.2 e)
def Bk.stp_len(b:Bk)(x:List Bool×List Bool)(i:Nat):(b.stp x i).1.length=x.1.length/\(b.stp x i).2.length=x.2.length:=by
 unfold Bk.stp;split <;> simp
def Bk.end_len(b:Bk)(o:List Nat):(b.ends o).1.length=b.rs.length/\(b.ends o).2.length=b.cs.length:=by
 have key:∀(o:List Nat)(x:List Bool×List Bool),(o.foldl b.stp x).1.length=x.1.length/\(o.foldl b.stp x).2.length=x.2.length:=by
  intro o
  induction o with
  |nil=>exact λ x=>⟨rfl,rfl⟩
  |cons i o w=>
   intro x;have e:=w (b.stp x i);have f:=b.stp_len x i;exact⟨e.1.trans f.1,e.2.trans f.2⟩
 have:=key o b.ini;simpa[Bk.ends,Bk.ini]using this
def Bk.Ord.split(h:b.Ord o)(e:i<b.cs.length):∃X Y,o=X++i::Y:=append_of_mem (h.has e)
def M7:WC i n=1↔i=n:=by
 unfold WC;split
 .rename_i h;simp[h]
 .rename_i h;split
  .simp[h]
  .simp[h]
def M8(f:0<n):WC i n=2↔i=0:=by
 unfold WC;split
 .rename_i h;constructor
  .intro x;cases x
  .intro x;omega
 .split
  .rename_i h;simp[h]
  .rename_i h;simp[h]
def Zbp(e all:Nat):WC e all=0\/WC e all=1\/WC e all=2:=by
 unfold WC;split
 .exact .inr (.inl rfl)
 .split
  .exact .inr (.inr rfl)
  .exact .inl rfl
def Bk.fatR_one(b:Bk):b.fatR i=1↔∀o,b.Ord o->(b.ends o).1.getD i false=true:=by
 unfold Bk.fatR;rw[M7,countP_eq_length];exact⟨λ h o e=>h o (Bk.mem_all_iff.2 e),λ h o e=>h o (Bk.mem_all_iff.1 e)⟩
def Bk.fatR_two(b:Bk)(h:b.Ok):b.fatR i=2↔∀o,b.Ord o->(b.ends o).1.getD i false=false:=by
 unfold Bk.fatR;rw[M8 h.all_pos,countP_eq_zero];exact⟨λ h o e=>by simpa using h o (Bk.mem_all_iff.2 e),λ h o e=>by simpa using h o (Bk.mem_all_iff.1 e)⟩
