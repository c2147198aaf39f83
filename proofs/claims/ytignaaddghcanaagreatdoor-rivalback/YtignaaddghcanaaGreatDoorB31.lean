/- Lemmas. No conditions. -/
import Derived.Test.YtignaaddghcanaaGreatDoorB30
set_option linter.all false
open List
namespace Go.TM
variable{T:Type}{l:List ByteArray}{s:ByteArray}{nameB:ByteArray->Bool}{X:List Nat}{n i j:Nat}
structure Cs where
 nm:ByteArray
 ag:Int
 gs:List (List Int)
 af:List Int
structure Bk where
 rs:List ByteArray
 cs:List Cs
variable{b:Bk}
structure BH where
 ra:Option Addr
 rl:Nat
 rc:Nat
 ca:Option Addr
 cl:Nat
 cc:Nat
abbrev BH.v(h:BH):Value:=.agg #[.slice h.ra h.rl h.rc,.slice h.ca h.cl h.cc]
def Wl(U:Qa T)(a:Option Addr)(len:Nat)(h:List (List Int)):Prop:=Q8 U a len 1 h λ l vs=>∃a' b f,vs=[.slice a' b f]/\Z3 U a' b l/\b<2^60
def Wl.lg{U U':Qa T}{a:Option Addr}{len:Nat}{z:List (List Int)}(h:Wl U a len z)(w:U.lg U'):Wl U' a len z:=
 Q8.lg h w λ _ _⟨a',f,b,e,B,E⟩=>⟨a',f,b,e,B.lg w,E⟩
def HF(U:Qa T)(c:Cs)(vs:List Value):Prop:=
 ∃ga gl gc b al ac,vs=[.string c.nm,.int .i64 c.ag,.slice ga gl gc,.slice b al ac]/\Wl U ga gl c.gs/\gl<2^60/\Z3 U b al c.af/\al<2^60
def HF.lg{U U':Qa T}{c:Cs}{vs:List Value}(h:HF U c vs)(b:U.lg U'):HF U' c vs:=
 let ⟨ga,gl,gc,aa,al,ac,e,h1,h2,h3,h4⟩:=h;⟨ga,gl,gc,aa,al,ac,e,h1.lg b,h2,h3.lg b,h4⟩
structure Zq(U:Qa T)(h:BH)(b:Bk):Prop where
 rs:Q8 U h.ra h.rl 1 b.rs λ s vs=>vs=[.string s]
 cs:Q8 U h.ca h.cl 4 b.cs (HF U)
 rl:h.rl<2^60
 cl:h.cl<2^60
 rn:∀s∈b.rs,s.size<2^60
 cn:∀c∈b.cs,c.nm.size<2^60
def Zq.lg{U U':Qa T}{h:BH}{b:Bk}(k:Zq U h b)(f:U.lg U'):Zq U' h b:=
 ⟨k.rs.lg f λ _ _ h=>h,k.cs.lg f λ _ _ h=>h.lg f,k.rl,k.cl,k.rn,k.cn⟩
instance decBA:DecidableEq ByteArray:=λ a b=>decidable_of_iff (a.data=b.data) ⟨λ h=>by cases a;cases b;simp_all,λ h=>by rw[h]⟩
def QU(b:Int):Option Int->List Int->Int
 |_,[]=>0
 |p,n::l=>if QR n 0 (b-1)then(match p with|some m=>if n<=m then 7 else QU b (some n) l|none=>QU b (some n) l)else 6
def Pf(b:Int)(p:Option Int)(n:Int)(l:List Int):QU b p (n::l)=if QR n 0 (b-1)then(match p with|some m=>if n<=m then 7 else QU b (some n) l|none=>QU b (some n) l)else 6:=rfl
def JB(l:List ByteArray)(s:ByteArray):Bool:=l.any λ x=>decide (x=s)
def Znu:JB l s=true↔s∈l:=by
 simp only[JB,any_eq_true,decide_eq_true_eq];exact⟨λ⟨x,h,e⟩=>e▸h,λ h=>⟨s,h,rfl⟩⟩
def Gx(nameB:ByteArray->Bool):List ByteArray->List ByteArray->Int
 |_,[]=>0
 |seen,s::l=>if nameB s then(if JB seen s then 5 else Gx nameB (seen++[s]) l)else 4
def XV(nr:Int):List (List Int)->Int
 |[]=>0
 |g::l=>if g.length > 3 then 2 else if QU nr none g=0 then XV nr l else QU nr none g
def XS(nr:Int)(g:List (List Int)):Int:=if g.length > 3 then 2 else XV nr g
def XW(nameB:ByteArray->Bool)(nr nc:Int):List ByteArray->List Cs->Int
 |_,[]=>0
 |seen,c::l=>if nameB c.nm then(if JB seen c.nm then 5 else
   if QR c.ag 0 (nr-1)then(if XS nr c.gs=0 then(if QU nc none c.af=0 then XW nameB nr nc (seen++[c.nm]) l else QU nc none c.af)else XS nr c.gs)else 6)else 4
def Bk.nr(b:Bk):Int:=b.rs.length
def Bk.nc(b:Bk):Int:=b.cs.length
def Bk.A(b:Bk):List (List Nat):=b.cs.map λ c=>c.af.map Int.toNat
def Bk.rsF(nameB:ByteArray->Bool)(b:Bk):Int:=if b.rs.length > 6 then 2 else Gx nameB [] b.rs
def Bk.csF(nameB:ByteArray->Bool)(b:Bk):Int:=if b.cs.length > 5 then 2 else XW nameB b.nr b.nc [] b.cs
def Bk.flaw(nameB:ByteArray->Bool)(b:Bk):Int:=if b.rsF nameB=0 then(if b.csF nameB=0 then(if Wu b.A then 8 else 0)else b.csF nameB)else b.rsF nameB
def KS{b:Int}:∀{l:List Int}{p:Option Int},QU b p l=0->∀n∈l,0<=n/\n<b
 |[],_,_,n,f=>by cases f
 |x::l,p,h,n,f=>by
  rw[Pf]at h;by_cases w:QR x 0 (b-1)=true
  .rw[if_pos w]at h
   have B:0<=x/\x<b:=by
    simp only[QR,Bool.and_eq_true,decide_eq_true_eq]at w;omega
   have z:QU b (some x) l=0:=by
    cases p with
    |none=>exact h
    |some m=>
     simp only at h;split at h
     .cases h
     .exact h
   rcases mem_cons.1 f with rfl|f
   .exact B
   .exact KS z n f
  .rw[if_neg w]at h;cases h
def Sx{nameB:ByteArray->Bool}{nr nc:Int}:∀{l:List Cs}{seen:List ByteArray},XW nameB nr nc seen l=0->∀c∈l,(0<=c.ag/\c.ag<nr)/\XS nr c.gs=0/\QU nc none c.af=0
 |[],_,_,c,b=>by cases b
 |x::l,seen,h,c,b=>by
  simp only[XW]at h;split at h
  .split at h
   .cases h
   .split at h
    .rename_i hag;split at h
     .rename_i hg;split at h
      .rename_i hr;rcases mem_cons.1 b with rfl|b
       .simp only[QR,Bool.and_eq_true,decide_eq_true_eq]at hag;exact⟨O1,hg,hr⟩
       .exact Sx h c b
      .rename_i hr;exact absurd h hr
     .rename_i hg;exact absurd h hg
    .cases h
  .cases h
def I_{nr:Int}:∀{l:List (List Int)},XV nr l=0->∀g∈l,g.length<=3/\QU nr none g=0
 |[],_,g,b=>by cases b
 |x::l,h,g,b=>by
  simp only[XV]at h;split at h
  .cases h
  .split at h
   .rename_i hr;rcases mem_cons.1 b with rfl|b
    .exact⟨O1,hr⟩
    .exact I_ h g b
   .rename_i hr;exact absurd h hr
structure Bk.Ok(b:Bk):Prop where
 nr:b.rs.length<=6
 nc:b.cs.length<=5
 ag:∀c∈b.cs,0<=c.ag/\c.ag<b.nr
 gl:∀c∈b.cs,c.gs.length<=3
 gs:∀c∈b.cs,∀g∈c.gs,g.length<=3/\∀n∈g,0<=n/\n<b.nr
 ri:∀c∈b.cs,QU b.nc none c.af=0
 af:∀c∈b.cs,∀n∈c.af,0<=n/\n<b.nc
 lo:Wu b.A=false
def Bk.ok_of(h:b.flaw nameB=0):b.Ok:=by
 unfold Bk.flaw at h;split at h
 .rename_i h1;split at h
  .rename_i h2;split at h
   .cases h
   .rename_i h3;unfold Bk.rsF at h1;unfold Bk.csF at h2;split at h1
    .cases h1
    .split at h2
     .cases h2
     .have hin:=Sx h2
      have z:∀c∈b.cs,c.gs.length<=3/\∀g∈c.gs,g.length<=3/\QU b.nr none g=0:=by
       intro c f;have:=(hin c f).2.1;unfold XS at this;split at this
       .cases this
       .exact⟨O1,I_ this⟩
      exact⟨O1,O1,λ c f=>(hin c f).1,λ c f=>(z c f).1,λ c f g w=>⟨((z c f).2 g w).1,KS ((z c f).2 g w).2⟩,λ c f=>(hin c f).2.2,λ c f=>KS (hin c f).2.2,by simpa using h3⟩
  .rename_i h2;exact absurd h h2
 .rename_i h1;exact absurd h h1
def Bk.Ok.low(h:b.Ok):∀i,i<b.A.length->∀k∈Jf b.A i,k<b.A.length:=by
 intro i f k w;simp only[Bk.A,length_map]at f ⊢;simp only[Jf,Bk.A,getD_eq_getElem?_getD,getElem?_map,getElem?_eq_getElem f,Option.map_some,Option.getD_some,mem_map]at w;obtain⟨n,z,rfl⟩:=w;have:=h.af _ (getElem_mem f) n z;unfold Bk.nc at this;omega
instance:Inhabited Cs:=⟨⟨⟨#[]⟩,0,[],[]⟩⟩
def Bk.cas(b:Bk)(i:Nat):Cs:=b.cs.getD i default
def LL(gs:List (List Int))(s:List Bool):Bool:=gs.any λ g=>g.all λ r=>s.getD r.toNat false
def Bk.stp(b:Bk)(x:List Bool×List Bool)(i:Nat):List Bool×List Bool:=if LL (b.cas i).gs x.1 then(x.1.set (b.cas i).ag.toNat false,x.2.set i true)else x
def Bk.ini(b:Bk):List Bool×List Bool:=(replicate b.rs.length true,replicate b.cs.length false)
def Bk.ends(b:Bk)(o:List Nat):List Bool×List Bool:=o.foldl b.stp b.ini
def Bk.ends_snoc(b:Bk)(o:List Nat)(i:Nat):b.ends (o++[i])=b.stp (b.ends o) i:=by simp[Bk.ends]
def Bk.can(b:Bk)(o:List Nat)(i:Nat):Bool:=!o.contains i&&(Jf b.A i).all λ k=>o.contains k
def Bk.ords(b:Bk):Nat->List Nat->List (List Nat)
 |0,o=>[o]
 |k+1,o=>(range b.cs.length).flatMap λ i=>if b.can o i then b.ords k (o++[i])else[]
def Bk.all(b:Bk):List (List Nat):=b.ords b.cs.length []
def Bk.ordL(b:Bk):List Nat->List Int->Int
 |_,[]=>0
 |o,i::l=>if QR i 0 (b.nc-1)then(if i.toNat∈o then 5 else if(Jf b.A i.toNat).all (λ k=>o.contains k)then b.ordL (o++[i.toNat]) l else 7)else 6
def Bk.ordF(b:Bk)(l:List Int):Int:=if l.length≠b.cs.length then 2 else b.ordL [] l
def XZ(b all:Nat):Int:=if b=all then 1 else if b=0 then 2 else 0
def Bk.fatR(b:Bk)(r:Nat):Int:=XZ (b.all.countP λ o=>(b.ends o).1.getD r false) b.all.length
def Bk.fatC(b:Bk)(i:Nat):Int:=XZ (b.all.countP λ o=>(b.ends o).2.getD i false) b.all.length
def Bk.fatesR(b:Bk):List Int:=(range b.rs.length).map b.fatR
def Bk.fatesC(b:Bk):List Int:=(range b.cs.length).map b.fatC
def Bk.difS(b:Bk)(r:Nat)(w:Bool):List Nat:=(b.all.find? λ o=>(b.ends o).1.getD r false==w).getD []
def Bk.kept(b:Bk)(out:Nat->Bool):List Nat:=(range b.cs.length).filter λ i=>!out i
def Bk.wo(b:Bk)(out:Nat->Bool):Bk:=
 ⟨b.rs,(b.kept out).map λ i=>{ b.cas i with af:=((range (b.kept out).length).filter λ p=>QM b.A out b.cs.length i ((b.kept out).getD p 0)).map λ(p:Nat)=>(p:Int) }⟩
def ZA(n:Int):List Int->List Int
 |[]=>[n]
 |x::l=>if x<n then x::ZA n l else n::x::l
def Bk.sty(b:Bk)(s:Int×Int):Bk:=⟨b.rs,b.cs.set s.1.toNat { b.cas s.1.toNat with af:=ZA s.2 (b.cas s.1.toNat).af }⟩
def Bk.stys(b:Bk)(l:List (Int×Int)):Bk:=l.foldl Bk.sty b
def Bk.cans(b:Bk):List (Int×Int):=(range b.cs.length).flatMap λ(i:Nat)=>(((range b.cs.length).filter λ k=>k != i&&!(b.cas i).af.contains (k:Int)).map λ(k:Nat)=>((i:Int),(k:Int)))
def Jb:Bk:=⟨[⟨#[97,122,117,114]⟩,⟨#[98,111,114,97]⟩,⟨#[99,105,109,97]⟩],[⟨⟨#[111,112,112]⟩,1,[[0]],[]⟩,⟨⟨#[114,101,118]⟩,0,[[]],[]⟩,⟨⟨#[105,110,118]⟩,2,[[1]],[]⟩]⟩
def F2:Jb.fatesR=[2,0,0]/\Jb.fatesC=[0,1,0]:=D1
def D0:Jb.difS 1 true=[1,0,2]/\Jb.difS 1 false=[0,1,2]:=D1
def FG:Jb.cans=[(0,1),(0,2),(1,0),(1,2),(2,0),(2,1)]:=D1
def Xu(X:List Nat)(n i:Nat):List Nat:=X.take i++replicate (n-i) 0
def zR(X:List Nat)(n:Nat):Xu X n 0=replicate n 0:=by simp[Xu]
def xD(h:X.length=n):Xu X n n=X:=by simp[Xu,<- h]
def wH(w:X[i]?=some j)(z:X.length=n):(Xu X n i).set i j=Xu X n (i+1):=by
 obtain⟨b,rfl⟩:=List.getElem?_eq_some_iff.1 w;unfold Xu;have f:(X.take i).length=i:=by rw[length_take];omega
 have h:n-i=(n-(i+1))+1:=O1
 rw[set_append_right _ _ O1,f,Nat.sub_self,h,replicate_succ,set_cons_zero,take_succ_eq_append_getElem b,append_assoc];rfl
def xE(f:X.length=n)(b:i<=n):(Xu X n i).length=n:=by
 unfold Xu;rw[length_append,length_take,length_replicate];omega
section
variable(out:Nat->Bool)
def X_(i:Nat)(af:List Nat)(k:Nat):List Nat:=(range k).foldl (λ af k=>WP out af i k) af
def XC(n:Nat)(af:List Nat)(i:Nat):List Nat:=(range i).foldl (λ af i=>HO out n af i) af
def Iw(i:Nat)(af:List Nat)(k:Nat):X_ out i af (k+1)=WP out (X_ out i af k) i k:=by simp[X_,range_succ]
def D4(n i:Nat)(af:List Nat):X_ out i af n=HO out n af i:=rfl
def Iy(n:Nat)(af:List Nat)(i:Nat):XC out n af (i+1)=HO out n (XC out n af i) i:=by simp[XC,range_succ]
structure WB(n m:Nat)(af:List Nat):Prop where
 len:af.length=n
 lt:∀x∈af,x<2^m
end
variable{m:Nat}{af:List Nat}
section
variable(out:Nat->Bool)
variable{out}
def WB.at(h:WB n m af)(i:Nat):af.getD i 0<2^m:=by
 rw[getD_eq_getElem?_getD];cases b:af[i]? with
 |none=>exact Nat.two_pow_pos m
 |some x=>exact h.lt x (mem_of_getElem? b)
def WB.one(h:WB n m af):WB n m (WP out af i j):=by
 unfold WP;split
 .refine⟨by simpa using h.len,λ x b=>?_⟩;rcases mem_or_eq_of_mem_set b with b|rfl
  .exact h.lt x b
  .exact Nat.or_lt_two_pow (h.at i) (h.at j)
 .exact h
def WB.to{n m i:Nat}{af:List Nat}(h:WB n m af):∀k,WB n m (X_ out i af k)
 |0=>h
 |k+1=>by rw[Iw];exact(WB.to h k).one
def WB.rto{n m:Nat}{af:List Nat}(h:WB n m af):∀i,WB n m (XC out n af i)
 |0=>h
 |i+1=>by
  rw[Iy,<- D4];exact(WB.rto h i).to n
end
section
variable(b:Bk)(out:Nat->Bool)
def Bk.kpt(j:Nat):List Nat:=(range j).filter λ i=>!out i
def Bk.kpt_all:Bk.kpt out b.cs.length=b.kept out:=rfl
end
variable{w:Nat}
section
variable(b:Bk)(out:Nat->Bool)
variable{out}
def Bk.kpt_in(h:out j=false):Bk.kpt out (j+1)=Bk.kpt out j++[j]:=by
 unfold Bk.kpt;rw[range_succ,filter_append,filter_cons_of_pos (by simp[h])];rfl
def Bk.kpt_out(h:out j=true):Bk.kpt out (j+1)=Bk.kpt out j:=by
 unfold Bk.kpt;rw[range_succ,filter_append,filter_cons_of_neg (by simp[h])];simp
def Bk.kpt_len(j:Nat):(Bk.kpt out j).length<=j:=Nat.le_trans (length_filter_le _ _) S1
def Bk.kpt_lt(h:n∈Bk.kpt out j):n<j/\out n=false:=by
 unfold Bk.kpt at h;simpa using h
def Bk.kpt_nodup(j:Nat):(Bk.kpt out j).Nodup:=nodup_range.filter _
def Bk.afK(out:Nat->Bool)(w j:Nat):List Int:=((range (Bk.kpt out j).length).filter λ q=>w.testBit ((Bk.kpt out j).getD q 0)).map λ(q:Nat)=>(q:Int)
def Bk.afK_len(w j:Nat):(Bk.afK out w j).length<=j:=by
 unfold Bk.afK;rw[length_map];exact Nat.le_trans (length_filter_le _ _) (by simpa using Bk.kpt_len j)
def Bk.afK_out(h:out j=true):Bk.afK out w (j+1)=Bk.afK out w j:=by unfold Bk.afK;rw[Bk.kpt_out h]
def Bk.afK_in(h:out j=false):Bk.afK out w (j+1)=Bk.afK out w j++(if w.testBit j then[((Bk.kpt out j).length:Int)]else[]):=by
 unfold Bk.afK;rw[Bk.kpt_in h,length_append,length_cons,length_nil,range_succ,filter_append,map_append]
 have B:((range (Bk.kpt out j).length).filter λ q=>w.testBit ((Bk.kpt out j++[j]).getD q 0))=(range (Bk.kpt out j).length).filter λ q=>w.testBit ((Bk.kpt out j).getD q 0):=by
  refine filter_congr λ q z=>?_;rw[mem_range]at z;rw[getD_eq_getElem?_getD,getElem?_append_left z,<- getD_eq_getElem?_getD]
 have b:(Bk.kpt out j++[j]).getD (Bk.kpt out j).length 0=j:=by simp[getD_eq_getElem?_getD]
 rw[B];congr 1;cases f:w.testBit j with
 |true=>rw[filter_cons_of_pos (by rw[b];exact f)];simp
 |false=>rw[filter_cons_of_neg (by rw[b,f];simp)];simp
def Bk.wo_cs(b:Bk)(W:List Nat)(h:∀i,i<b.cs.length->∀k,(W.getD i 0).testBit k=QM b.A out b.cs.length i k) :
  (b.wo out).cs=(b.kept out).map λ i=>{ b.cas i with af:=Bk.afK out (W.getD i 0) b.cs.length }:=by
 unfold Bk.wo;refine map_congr_left λ i w=>?_;have f:i<b.cs.length:=(Bk.kpt_lt (j:=b.cs.length) w).1;unfold Bk.afK;rw[Bk.kpt_all];simp only[h i f]
def Bk.A_length(b:Bk):b.A.length=b.cs.length:=by simp[Bk.A]
def Bk.Ok.wlW{b:Bk}(h:b.Ok)(out:Nat->Bool):∀i,i<b.cs.length->∀k,((GE out b.cs.length b.cs.length (b.A.map Z5)).getD i 0).testBit k=QM b.A out b.cs.length i k:=by
 intro i f k;have:=kO (A:=b.A) (out:=out) h.low h.lo (i:=i) (k:=k) (by rw[b.A_length];exact f);rw[b.A_length]at this;exact this
end
variable{a:List (List Nat)}
def Ij{two:Nat}(w:∀i,i<a.length->∀k∈Jf a i,k<a.length)(ρ:Nat->Nat)(h:∀i,i<a.length->∀k∈Jf a i,ρ k<ρ i):∀(s i:Nat),i<a.length->WA a two s i=true->ρ two<ρ i
 |0,_,_,b=>by simp[WA]at b
 |s+1,i,z,b=>by
  simp only[WA,any_eq_true,Bool.or_eq_true,beq_iff_eq]at b;obtain⟨k,B,b⟩:=b;have f:=h i z k B;rcases b with rfl|b
  .exact f
  .exact Nat.lt_trans (Ij w ρ h s k (w i z k B) b) f
def zW(f:∀i,i<a.length->∀k∈Jf a i,k<a.length)(ρ:Nat->Nat)(h:∀i,i<a.length->∀k∈Jf a i,ρ k<ρ i):Wu a=false:=by
 rw[pz f];cases b:Gk a with
 |false=>rfl
 |true=>
  unfold Gk at b;rw[any_eq_true]at b;obtain⟨i,w,z⟩:=b;exact absurd (Ij f ρ h _ i (by simpa using w) z) (Nat.lt_irrefl _)
def vC(h:Wu a=false):∃ρ:Nat->Nat,∀i,i<a.length->∀k∈Jf a i,ρ k<ρ i:=by
 obtain⟨L,H,f⟩:=D8 h;refine⟨λ x=>L.length-L.idxOf x,λ i K k N=>?_⟩;obtain⟨X,Y,e⟩:=append_of_mem (f i K);have b:=H.aft X Y i e k N;have I:=H.nod;rw[e,nodup_append]at I;obtain⟨P,G,w⟩:=I;have z:i∉X:=λ F=>w i F i S1 rfl;have B:k∉X:=λ F=>w k F k (by simp[b]) rfl;have E:k≠i:=λ e'=>(nodup_cons.1 G).1 (e'▸b)
 have Q:L.idxOf i=X.length:=by
  rw[e,idxOf_append,if_neg z];simp
 have S:L.idxOf k=X.length+(Y.idxOf k+1):=by
  rw[e,idxOf_append,if_neg B,idxOf_cons,show(i==k)=false by simpa using E.symm];simp only[cond_false];omega
 have T:Y.idxOf k<Y.length:=idxOf_lt_length_of_mem b;have U:L.length=X.length+(Y.length+1):=by rw[e];simp
 show L.length-L.idxOf k<L.length-L.idxOf i;omega
def Ic{out:Nat->Bool}(z:∀i,i<a.length->∀k∈Jf a i,k<a.length)(ρ:Nat->Nat)(h:∀i,i<a.length->∀k∈Jf a i,ρ k<ρ i):∀(s i k:Nat),i<a.length->QM a out s i k=true->ρ k<ρ i
 |0,i,k,b,f=>h i b k (by simpa[QM]using f)
 |s+1,i,k,b,f=>by
  rcases VK.1 f with f|⟨o,w,E,B⟩
  .exact h i b k (by simpa using f)
  .exact Nat.lt_trans (Ic z ρ h s o k (z i b o w) B) (h i b o w)
def SB{b:Int}:∀{l:List Int}{p:Option Int},l.Pairwise (· < ·)->(∀x∈l,0<=x/\x<b)->(∀m,p=some m->∀x∈l,m<x)->QU b p l=0
 |[],_,_,_,_=>rfl
 |n::l,p,F,h,E=>by
  obtain⟨z,B⟩:=pairwise_cons.1 F;have G:=h n S1;have w:=SB (b:=b) (p:=some n) B (λ x f=>h x (by simp[f])) λ m e x f=>by cases e;exact z x f
  rw[Pf,if_pos (by simp only[QR,Bool.and_eq_true,decide_eq_true_eq];omega)];cases p with
  |none=>exact w
  |some m=>
   have:=E m rfl n S1;simp only;rw[if_neg O1];exact w
def Bk.wo_nc(b:Bk)(out:Nat->Bool):(b.wo out).cs.length=(b.kept out).length:=by simp[Bk.wo]
def Bk.wo_aft(b:Bk)(out:Nat->Bool)(h:n<(b.kept out).length):Jf (b.wo out).A n=(range (b.kept out).length).filter λ q=>QM b.A out b.cs.length ((b.kept out).getD n 0) ((b.kept out).getD q 0):=by
 have w:(b.wo out).cs[n]?=some { b.cas ((b.kept out).getD n 0)with af:=((range (b.kept out).length).filter λ q=>QM b.A out b.cs.length ((b.kept out).getD n 0) ((b.kept out).getD q 0)).map λ(q:Nat)=>(q:Int) }:=by
  unfold Bk.wo;simp[getD_eq_getElem?_getD,h]
 unfold Jf
 have f:(b.wo out).A[n]?=some ((((range (b.kept out).length).filter λ q=>QM b.A out b.cs.length ((b.kept out).getD n 0) ((b.kept out).getD q 0)).map λ(q:Nat)=>(q:Int)).map Int.toNat):=by
  unfold Bk.A;rw[getElem?_map];show Option.map _ (b.wo out).cs[n]?=_;rw[w];rfl
 rw[getD_eq_getElem?_getD,f,Option.getD_some,map_map];have:(Int.toNat ∘ λ(n:Nat)=>(n:Int))=id:=by funext n;simp
 rw[this,map_id]
def Bk.Ok.wo{b:Bk}(h:b.Ok)(out:Nat->Bool):(b.wo out).Ok:=by
 have Q:(b.kept out).length<=b.cs.length:=Bk.kpt_len (out:=out) b.cs.length;have E:=b.wo_nc out;have P:=h.nc;have I:∀i∈b.kept out,i<b.cs.length:=λ i f=>(Bk.kpt_lt (j:=b.cs.length) f).1
 have F:∀i∈b.kept out,b.cas i∈b.cs:=λ i f=>by
  simp only[Bk.cas,getD_eq_getElem?_getD,getElem?_eq_getElem (I i f),Option.getD_some];exact getElem_mem _
 have z:∀c∈(b.wo out).cs,∃i∈b.kept out,c={ b.cas i with af:=((range (b.kept out).length).filter λ p=>QM b.A out b.cs.length i ((b.kept out).getD p 0)).map λ(p:Nat)=>(p:Int) }:=by
  intro c w;obtain⟨i,f,rfl⟩:=mem_map.1 w;exact⟨i,f,rfl⟩
 have H:∀i,∀n∈((range (b.kept out).length).filter λ p=>QM b.A out b.cs.length i ((b.kept out).getD p 0)).map (λ(p:Nat)=>(p:Int)),0<=n/\n<(b.wo out).nc:=by
  intro i n N;obtain⟨p,B,rfl⟩:=mem_map.1 N;have:=(mem_filter.1 B).1;rw[mem_range]at this;unfold Bk.nc;rw[E];omega
 refine⟨h.nr,O1,λ c w=>?_,λ c w=>?_,λ c w=>?_,λ c w=>?_,λ c w=>?_,?_⟩
 .obtain⟨i,f,rfl⟩:=z c w;exact h.ag (b.cas i) (F i f)
 .obtain⟨i,f,rfl⟩:=z c w;exact h.gl (b.cas i) (F i f)
 .obtain⟨i,f,rfl⟩:=z c w;exact h.gs (b.cas i) (F i f)
 .obtain⟨i,f,rfl⟩:=z c w;refine SB ?_ (H i) (λ m e=>by cases e);rw[pairwise_map];refine Pairwise.filter _ ?_;refine Pairwise.imp (R:=(· < ·)) (λ h=>O1) pairwise_lt_range
 .obtain⟨i,f,rfl⟩:=z c w;exact H i
 .obtain⟨ρ,hρ⟩:=vC h.lo;have G:(b.wo out).A.length=(b.kept out).length:=by rw[Bk.A_length,E]
  have L:∀p,p<(b.kept out).length->(b.kept out).getD p 0<b.A.length:=λ p B=>by
   rw[Bk.A_length];refine I _ ?_;simp only[getD_eq_getElem?_getD,getElem?_eq_getElem B,Option.getD_some];exact getElem_mem _
  refine zW (λ p B q K=>?_) (λ p=>ρ ((b.kept out).getD p 0)) λ p B q K=>?_
  .rw[G]at B ⊢;rw[b.wo_aft out B,mem_filter,mem_range]at K;exact K.1
  .rw[G]at B;rw[b.wo_aft out B,mem_filter,mem_range]at K;exact Ic h.low ρ hρ _ _ _ (L p B) K.2
