/- Lemmas. No conditions. -/
import Derived.Test.YtnjljnhoaafkiaaGreatDoorB31
set_option linter.all false
open List
namespace Go.TM
variable{T:Type}{nameB:ByteArray->Bool}{X:List Nat}{n i j:Nat}
structure Cs where
 nm:ByteArray
 ag:Int
 gs:List (List Int)
 af:List Int
structure Bk where
 rs:List ByteArray
 cs:List Cs
variable{b:Bk}
structure BH where
 ra:Option Addr
 rl:Nat
 rc:Nat
 ca:Option Addr
 cl:Nat
 cc:Nat
abbrev BH.v(h:BH):Value:=.agg #[.slice h.ra h.rl h.rc,.slice h.ca h.cl h.cc]
def Wx(U:Qa T)(a:Option Addr)(len:Nat)(f:List (List Int)):Prop:=Q7 U a len 1 f λ l vs=>∃a' b cap',vs=[.slice a' b cap']/\Z6 U a' b l/\b<2^60
def Wx.lg{U U':Qa T}{a:Option Addr}{len:Nat}{f:List (List Int)}(h:Wx U a len f)(hl:U.lg U'):Wx U' a len f:=
 Q7.lg h hl λ _ _⟨a',b,cap',e,h1,h2⟩=>⟨a',b,cap',e,h1.lg hl,h2⟩
def V3(U:Qa T)(c:Cs)(vs:List Value):Prop:=
 ∃ga gl gc aa al ac,vs=[.string c.nm,.int .i64 c.ag,.slice ga gl gc,.slice aa al ac]/\Wx U ga gl c.gs/\gl<2^60/\Z6 U aa al c.af/\al<2^60
def V3.lg{U U':Qa T}{c:Cs}{vs:List Value}(h:V3 U c vs)(hl:U.lg U'):V3 U' c vs:=
 let ⟨ga,gl,gc,aa,al,ac,e,h1,h2,h3,h4⟩:=h;⟨ga,gl,gc,aa,al,ac,e,h1.lg hl,h2,h3.lg hl,h4⟩
structure Zr(U:Qa T)(h:BH)(b:Bk):Prop where
 rs:Q7 U h.ra h.rl 1 b.rs λ s vs=>vs=[.string s]
 cs:Q7 U h.ca h.cl 4 b.cs (V3 U)
 rl:h.rl<2^60
 cl:h.cl<2^60
 rn:∀s∈b.rs,s.size<2^60
 cn:∀c∈b.cs,c.nm.size<2^60
def Zr.lg{U U':Qa T}{h:BH}{b:Bk}(k:Zr U h b)(hl:U.lg U'):Zr U' h b:=
 ⟨k.rs.lg hl λ _ _ h=>h,k.cs.lg hl λ _ _ h=>h.lg hl,k.rl,k.cl,k.rn,k.cn⟩
instance decBA:DecidableEq ByteArray:=λ a b=>decidable_of_iff (a.data=b.data) ⟨λ h=>by cases a;cases b;simp_all,λ h=>by rw[h]⟩
def QV(b:Int):Option Int->List Int->Int
 |_,[]=>0
 |p,n::l=>if QP n 0 (b-1)then(match p with|some m=>if n<=m then 7 else QV b (some n) l|none=>QV b (some n) l)else 6
def Ps(b:Int)(p:Option Int)(n:Int)(l:List Int):QV b p (n::l)=if QP n 0 (b-1)then(match p with|some m=>if n<=m then 7 else QV b (some n) l|none=>QV b (some n) l)else 6:=rfl
def JZ(l:List ByteArray)(s:ByteArray):Bool:=l.any λ x=>decide (x=s)
def GM(nameB:ByteArray->Bool):List ByteArray->List ByteArray->Int
 |_,[]=>0
 |seen,s::l=>if nameB s then(if JZ seen s then 5 else GM nameB (seen++[s]) l)else 4
def XZ(nr:Int):List (List Int)->Int
 |[]=>0
 |g::l=>if g.length > 3 then 2 else if QV nr none g=0 then XZ nr l else QV nr none g
def XV(nr:Int)(g:List (List Int)):Int:=if g.length > 3 then 2 else XZ nr g
def X_(nameB:ByteArray->Bool)(nr nc:Int):List ByteArray->List Cs->Int
 |_,[]=>0
 |seen,c::l=>if nameB c.nm then(if JZ seen c.nm then 5 else
   if QP c.ag 0 (nr-1)then(if XV nr c.gs=0 then(if QV nc none c.af=0 then X_ nameB nr nc (seen++[c.nm]) l else QV nc none c.af)else XV nr c.gs)else 6)else 4
def Bk.nr(b:Bk):Int:=b.rs.length
def Bk.nc(b:Bk):Int:=b.cs.length
def Bk.A(b:Bk):List (List Nat):=b.cs.map λ c=>c.af.map Int.toNat
def Bk.rsF(nameB:ByteArray->Bool)(b:Bk):Int:=if b.rs.length > 6 then 2 else GM nameB [] b.rs
def Bk.csF(nameB:ByteArray->Bool)(b:Bk):Int:=if b.cs.length > 5 then 2 else X_ nameB b.nr b.nc [] b.cs
def Bk.flaw(nameB:ByteArray->Bool)(b:Bk):Int:=if b.rsF nameB=0 then(if b.csF nameB=0 then(if Wy b.A then 8 else 0)else b.csF nameB)else b.rsF nameB
def Yb{b:Int}:∀{l:List Int}{p:Option Int},QV b p l=0->∀n∈l,0<=n/\n<b
 |[],_,_,n,f=>by cases f
 |x::l,p,h,n,f=>by
  rw[Ps]at h;by_cases hb:QP x 0 (b-1)=true
  .rw[if_pos hb]at h
   have hx:0<=x/\x<b:=by
    simp only[QP,Bool.and_eq_true,decide_eq_true_eq]at hb;omega
   have w:QV b (some x) l=0:=by
    cases p with
    |none=>exact h
    |some m=>
     simp only at h;split at h
     .cases h
     .exact h
   rcases mem_cons.1 f with rfl|f
   .exact hx
   .exact Yb w n f
  .rw[if_neg hb]at h;cases h
def SR{nameB:ByteArray->Bool}{nr nc:Int}:∀{l:List Cs}{seen:List ByteArray},X_ nameB nr nc seen l=0->∀c∈l,(0<=c.ag/\c.ag<nr)/\XV nr c.gs=0/\QV nc none c.af=0
 |[],_,_,c,b=>by cases b
 |x::l,seen,h,c,b=>by
  simp only[X_]at h;split at h
  .split at h
   .cases h
   .split at h
    .rename_i hag;split at h
     .rename_i hg;split at h
      .rename_i hr;rcases mem_cons.1 b with rfl|b
       .simp only[QP,Bool.and_eq_true,decide_eq_true_eq]at hag;exact⟨O1,hg,hr⟩
       .exact SR h c b
      .rename_i hr;exact absurd h hr
     .rename_i hg;exact absurd h hg
    .cases h
  .cases h
def Lc{nr:Int}:∀{l:List (List Int)},XZ nr l=0->∀g∈l,g.length<=3/\QV nr none g=0
 |[],_,g,b=>by cases b
 |x::l,h,g,b=>by
  simp only[XZ]at h;split at h
  .cases h
  .split at h
   .rename_i hr;rcases mem_cons.1 b with rfl|b
    .exact⟨O1,hr⟩
    .exact Lc h g b
   .rename_i hr;exact absurd h hr
structure Bk.Ok(b:Bk):Prop where
 nr:b.rs.length<=6
 nc:b.cs.length<=5
 ag:∀c∈b.cs,0<=c.ag/\c.ag<b.nr
 gl:∀c∈b.cs,c.gs.length<=3
 gs:∀c∈b.cs,∀g∈c.gs,g.length<=3/\∀n∈g,0<=n/\n<b.nr
 ri:∀c∈b.cs,QV b.nc none c.af=0
 af:∀c∈b.cs,∀n∈c.af,0<=n/\n<b.nc
 lo:Wy b.A=false
def Bk.ok_of(h:b.flaw nameB=0):b.Ok:=by
 unfold Bk.flaw at h;split at h
 .rename_i h1;split at h
  .rename_i h2;split at h
   .cases h
   .rename_i h3;unfold Bk.rsF at h1;unfold Bk.csF at h2;split at h1
    .cases h1
    .split at h2
     .cases h2
     .have hin:=SR h2
      have B:∀c∈b.cs,c.gs.length<=3/\∀g∈c.gs,g.length<=3/\QV b.nr none g=0:=by
       intro c f;have:=(hin c f).2.1;unfold XV at this;split at this
       .cases this
       .exact⟨O1,Lc this⟩
      exact⟨O1,O1,λ c f=>(hin c f).1,λ c f=>(B c f).1,λ c f g w=>⟨((B c f).2 g w).1,Yb ((B c f).2 g w).2⟩,λ c f=>(hin c f).2.2,λ c f=>Yb (hin c f).2.2,by simpa using h3⟩
  .rename_i h2;exact absurd h h2
 .rename_i h1;exact absurd h h1
def Bk.Ok.low(h:b.Ok):∀i,i<b.A.length->∀k∈Jf b.A i,k<b.A.length:=by
 intro i hi k f;simp only[Bk.A,length_map]at hi ⊢;simp only[Jf,Bk.A,getD_eq_getElem?_getD,getElem?_map,getElem?_eq_getElem hi,Option.map_some,Option.getD_some,mem_map]at f;obtain⟨n,w,rfl⟩:=f;have:=h.af _ (getElem_mem hi) n w;unfold Bk.nc at this;omega
instance:Inhabited Cs:=⟨⟨⟨#[]⟩,0,[],[]⟩⟩
def Bk.cas(b:Bk)(i:Nat):Cs:=b.cs.getD i default
def L_(gs:List (List Int))(s:List Bool):Bool:=gs.any λ g=>g.all λ r=>s.getD r.toNat false
def Bk.stp(b:Bk)(x:List Bool×List Bool)(i:Nat):List Bool×List Bool:=if L_ (b.cas i).gs x.1 then(x.1.set (b.cas i).ag.toNat false,x.2.set i true)else x
def Bk.ini(b:Bk):List Bool×List Bool:=(replicate b.rs.length true,replicate b.cs.length false)
def Bk.ends(b:Bk)(o:List Nat):List Bool×List Bool:=o.foldl b.stp b.ini
def Bk.ends_snoc(b:Bk)(o:List Nat)(i:Nat):b.ends (o++[i])=b.stp (b.ends o) i:=by simp[Bk.ends]
def Bk.can(b:Bk)(o:List Nat)(i:Nat):Bool:=!o.contains i&&(Jf b.A i).all λ k=>o.contains k
def Bk.ords(b:Bk):Nat->List Nat->List (List Nat)
 |0,o=>[o]
 |k+1,o=>(range b.cs.length).flatMap λ i=>if b.can o i then b.ords k (o++[i])else[]
def Bk.all(b:Bk):List (List Nat):=b.ords b.cs.length []
def Bk.ordL(b:Bk):List Nat->List Int->Int
 |_,[]=>0
 |o,i::l=>if QP i 0 (b.nc-1)then(if i.toNat∈o then 5 else if(Jf b.A i.toNat).all (λ k=>o.contains k)then b.ordL (o++[i.toNat]) l else 7)else 6
def Bk.ordF(b:Bk)(l:List Int):Int:=if l.length≠b.cs.length then 2 else b.ordL [] l
def H2(b all:Nat):Int:=if b=all then 1 else if b=0 then 2 else 0
def Bk.fatR(b:Bk)(r:Nat):Int:=H2 (b.all.countP λ o=>(b.ends o).1.getD r false) b.all.length
def Bk.fatC(b:Bk)(i:Nat):Int:=H2 (b.all.countP λ o=>(b.ends o).2.getD i false) b.all.length
def Bk.fatesR(b:Bk):List Int:=(range b.rs.length).map b.fatR
def Bk.fatesC(b:Bk):List Int:=(range b.cs.length).map b.fatC
def Bk.difS(b:Bk)(r:Nat)(w:Bool):List Nat:=(b.all.find? λ o=>(b.ends o).1.getD r false==w).getD []
def Bk.kept(b:Bk)(out:Nat->Bool):List Nat:=(range b.cs.length).filter λ i=>!out i
def Bk.wo(b:Bk)(out:Nat->Bool):Bk:=
 ⟨b.rs,(b.kept out).map λ i=>{ b.cas i with af:=((range (b.kept out).length).filter λ p=>QN b.A out b.cs.length i ((b.kept out).getD p 0)).map λ(p:Nat)=>(p:Int) }⟩
def ZB(n:Int):List Int->List Int
 |[]=>[n]
 |x::l=>if x<n then x::ZB n l else n::x::l
def Bk.sty(b:Bk)(s:Int×Int):Bk:=⟨b.rs,b.cs.set s.1.toNat { b.cas s.1.toNat with af:=ZB s.2 (b.cas s.1.toNat).af }⟩
def Bk.stys(b:Bk)(l:List (Int×Int)):Bk:=l.foldl Bk.sty b
def Bk.cans(b:Bk):List (Int×Int):=(range b.cs.length).flatMap λ(i:Nat)=>(((range b.cs.length).filter λ k=>k != i&&!(b.cas i).af.contains (k:Int)).map λ(k:Nat)=>((i:Int),(k:Int)))
def Ja:Bk:=⟨[⟨#[97,122,117,114]⟩,⟨#[98,111,114,97]⟩,⟨#[99,105,109,97]⟩],[⟨⟨#[111,112,112]⟩,1,[[0]],[]⟩,⟨⟨#[114,101,118]⟩,0,[[]],[]⟩,⟨⟨#[105,110,118]⟩,2,[[1]],[]⟩]⟩
def Fk:Ja.fatesR=[2,0,0]/\Ja.fatesC=[0,1,0]:=D1
def Dn:Ja.difS 1 true=[1,0,2]/\Ja.difS 1 false=[0,1,2]:=D1
def Ir:Ja.cans=[(0,1),(0,2),(1,0),(1,2),(2,0),(2,1)]:=D1
def Xz(X:List Nat)(n i:Nat):List Nat:=X.take i++replicate (n-i) 0
def jo(X:List Nat)(n:Nat):Xz X n 0=replicate n 0:=by simp[Xz]
def wy(h:X.length=n):Xz X n n=X:=by simp[Xz,<- h]
def xh(hx:X[i]?=some j)(w:X.length=n):(Xz X n i).set i j=Xz X n (i+1):=by
 obtain⟨b,rfl⟩:=List.getElem?_eq_some_iff.1 hx;unfold Xz;have f:(X.take i).length=i:=by rw[length_take];omega
 have h:n-i=(n-(i+1))+1:=O1
 rw[set_append_right _ _ O1,f,Nat.sub_self,h,replicate_succ,set_cons_zero,take_succ_eq_append_getElem b,append_assoc];rfl
def xg(b:X.length=n)(hi:i<=n):(Xz X n i).length=n:=by
 unfold Xz;rw[length_append,length_take,length_replicate];omega
section
variable(out:Nat->Bool)
def H3(i:Nat)(af:List Nat)(k:Nat):List Nat:=(range k).foldl (λ af k=>WS out af i k) af
def XG(n:Nat)(af:List Nat)(i:Nat):List Nat:=(range i).foldl (λ af i=>H_ out n af i) af
def Ik(i:Nat)(af:List Nat)(k:Nat):H3 out i af (k+1)=WS out (H3 out i af k) i k:=by simp[H3,range_succ]
def DC(n i:Nat)(af:List Nat):H3 out i af n=H_ out n af i:=rfl
def Im(n:Nat)(af:List Nat)(i:Nat):XG out n af (i+1)=H_ out n (XG out n af i) i:=by simp[XG,range_succ]
structure WB(n m:Nat)(af:List Nat):Prop where
 len:af.length=n
 lt:∀x∈af,x<2^m
end
variable{m:Nat}{af:List Nat}
section
variable(out:Nat->Bool)
variable{out}
def WB.at(h:WB n m af)(i:Nat):af.getD i 0<2^m:=by
 rw[getD_eq_getElem?_getD];cases hx:af[i]? with
 |none=>exact Nat.two_pow_pos m
 |some x=>exact h.lt x (mem_of_getElem? hx)
def WB.one(h:WB n m af):WB n m (WS out af i j):=by
 unfold WS;split
 .refine⟨by simpa using h.len,λ x hx=>?_⟩;rcases mem_or_eq_of_mem_set hx with hx|rfl
  .exact h.lt x hx
  .exact Nat.or_lt_two_pow (h.at i) (h.at j)
 .exact h
def WB.to{n m i:Nat}{af:List Nat}(h:WB n m af):∀k,WB n m (H3 out i af k)
 |0=>h
 |k+1=>by rw[Ik];exact(WB.to h k).one
def WB.rto{n m:Nat}{af:List Nat}(h:WB n m af):∀i,WB n m (XG out n af i)
 |0=>h
 |i+1=>by
  rw[Im,<- DC];exact(WB.rto h i).to n
end
section
variable(b:Bk)(out:Nat->Bool)
def Bk.kpt(j:Nat):List Nat:=(range j).filter λ i=>!out i
def Bk.kpt_all:Bk.kpt out b.cs.length=b.kept out:=rfl
end
variable{w:Nat}
section
variable(b:Bk)(out:Nat->Bool)
variable{out}
def Bk.kpt_in(h:out j=false):Bk.kpt out (j+1)=Bk.kpt out j++[j]:=by
 unfold Bk.kpt;rw[range_succ,filter_append,filter_cons_of_pos (by simp[h])];rfl
def Bk.kpt_out(h:out j=true):Bk.kpt out (j+1)=Bk.kpt out j:=by
 unfold Bk.kpt;rw[range_succ,filter_append,filter_cons_of_neg (by simp[h])];simp
def Bk.kpt_len(j:Nat):(Bk.kpt out j).length<=j:=Nat.le_trans (length_filter_le _ _) S1
def Bk.kpt_lt(h:n∈Bk.kpt out j):n<j/\out n=false:=by
 unfold Bk.kpt at h;simpa using h
def Bk.kpt_nodup(j:Nat):(Bk.kpt out j).Nodup:=nodup_range.filter _
def Bk.afK(out:Nat->Bool)(w j:Nat):List Int:=((range (Bk.kpt out j).length).filter λ q=>w.testBit ((Bk.kpt out j).getD q 0)).map λ(q:Nat)=>(q:Int)
def Bk.afK_len(w j:Nat):(Bk.afK out w j).length<=j:=by
 unfold Bk.afK;rw[length_map];exact Nat.le_trans (length_filter_le _ _) (by simpa using Bk.kpt_len j)
def Bk.afK_out(h:out j=true):Bk.afK out w (j+1)=Bk.afK out w j:=by unfold Bk.afK;rw[Bk.kpt_out h]
def Bk.afK_in(h:out j=false):Bk.afK out w (j+1)=Bk.afK out w j++(if w.testBit j then[((Bk.kpt out j).length:Int)]else[]):=by
 unfold Bk.afK;rw[Bk.kpt_in h,length_append,length_cons,length_nil,range_succ,filter_append,map_append]
 have B:((range (Bk.kpt out j).length).filter λ q=>w.testBit ((Bk.kpt out j++[j]).getD q 0))=(range (Bk.kpt out j).length).filter λ q=>w.testBit ((Bk.kpt out j).getD q 0):=by
  refine filter_congr λ q f=>?_;rw[mem_range]at f;rw[getD_eq_getElem?_getD,getElem?_append_left f,<- getD_eq_getElem?_getD]
 have b:(Bk.kpt out j++[j]).getD (Bk.kpt out j).length 0=j:=by simp[getD_eq_getElem?_getD]
 rw[B];congr 1;cases hb:w.testBit j with
 |true=>rw[filter_cons_of_pos (by rw[b];exact hb)];simp
 |false=>rw[filter_cons_of_neg (by rw[b,hb];simp)];simp
def Bk.wo_cs(b:Bk)(W:List Nat)(h:∀i,i<b.cs.length->∀k,(W.getD i 0).testBit k=QN b.A out b.cs.length i k) :
  (b.wo out).cs=(b.kept out).map λ i=>{ b.cas i with af:=Bk.afK out (W.getD i 0) b.cs.length }:=by
 unfold Bk.wo;refine map_congr_left λ i hi=>?_;have f:i<b.cs.length:=(Bk.kpt_lt (j:=b.cs.length) hi).1;unfold Bk.afK;rw[Bk.kpt_all];simp only[h i f]
def Bk.A_length(b:Bk):b.A.length=b.cs.length:=by simp[Bk.A]
def Bk.Ok.wlW{b:Bk}(h:b.Ok)(out:Nat->Bool):∀i,i<b.cs.length->∀k,((GP out b.cs.length b.cs.length (b.A.map Z4)).getD i 0).testBit k=QN b.A out b.cs.length i k:=by
 intro i hi k;have:=kr (A:=b.A) (out:=out) h.low h.lo (i:=i) (k:=k) (by rw[b.A_length];exact hi);rw[b.A_length]at this;exact this
end
variable{a:List (List Nat)}
def Iy{two:Nat}(b:∀i,i<a.length->∀k∈Jf a i,k<a.length)(ρ:Nat->Nat)(h:∀i,i<a.length->∀k∈Jf a i,ρ k<ρ i):∀(s i:Nat),i<a.length->WE a two s i=true->ρ two<ρ i
 |0,_,_,hm=>by simp[WE]at hm
 |s+1,i,hi,hm=>by
  simp only[WE,any_eq_true,Bool.or_eq_true,beq_iff_eq]at hm;obtain⟨k,f,hm⟩:=hm;have h1:=h i hi k f;rcases hm with rfl|hm
  .exact h1
  .exact Nat.lt_trans (Iy b ρ h s k (b i hi k f) hm) h1
def jt(b:∀i,i<a.length->∀k∈Jf a i,k<a.length)(ρ:Nat->Nat)(h:∀i,i<a.length->∀k∈Jf a i,ρ k<ρ i):Wy a=false:=by
 rw[gA b];cases hl:Gw a with
 |false=>rfl
 |true=>
  unfold Gw at hl;rw[any_eq_true]at hl;obtain⟨i,hi,hm⟩:=hl;exact absurd (Iy b ρ h _ i (by simpa using hi) hm) (Nat.lt_irrefl _)
def pC(h:Wy a=false):∃ρ:Nat->Nat,∀i,i<a.length->∀k∈Jf a i,ρ k<ρ i:=by
 obtain⟨L,hL,f⟩:=Dr h;refine⟨λ x=>L.length-L.idxOf x,λ i hi k I=>?_⟩;obtain⟨X,Y,e⟩:=append_of_mem (f i hi);have b:=hL.aft X Y i e k I;have H:=hL.nod;rw[e,nodup_append]at H;obtain⟨K,G,w⟩:=H;have B:i∉X:=λ hm=>w i hm i S1 rfl;have E:k∉X:=λ hm=>w k hm k (by simp[b]) rfl;have F:k≠i:=λ e'=>(nodup_cons.1 G).1 (e'▸b)
 have M:L.idxOf i=X.length:=by
  rw[e,idxOf_append,if_neg B];simp
 have N:L.idxOf k=X.length+(Y.idxOf k+1):=by
  rw[e,idxOf_append,if_neg E,idxOf_cons,show(i==k)=false by simpa using F.symm];simp only[cond_false];omega
 have P:Y.idxOf k<Y.length:=idxOf_lt_length_of_mem b;have Q:L.length=X.length+(Y.length+1):=by rw[e];simp
 show L.length-L.idxOf k<L.length-L.idxOf i;omega
def FM{out:Nat->Bool}(b:∀i,i<a.length->∀k∈Jf a i,k<a.length)(ρ:Nat->Nat)(h:∀i,i<a.length->∀k∈Jf a i,ρ k<ρ i):∀(s i k:Nat),i<a.length->QN a out s i k=true->ρ k<ρ i
 |0,i,k,hi,hm=>h i hi k (by simpa[QN]using hm)
 |s+1,i,k,hi,hm=>by
  rcases VQ.1 hm with hm|⟨o,h1,h2,f⟩
  .exact h i hi k (by simpa using hm)
  .exact Nat.lt_trans (FM b ρ h s o k (b i hi o h1) f) (h i hi o h1)
def SV{b:Int}:∀{l:List Int}{p:Option Int},l.Pairwise (· < ·)->(∀x∈l,0<=x/\x<b)->(∀m,p=some m->∀x∈l,m<x)->QV b p l=0
 |[],_,_,_,_=>rfl
 |n::l,p,hp,hb,hm=>by
  obtain⟨h1,h2⟩:=pairwise_cons.1 hp;have h:=hb n S1;have f:=SV (b:=b) (p:=some n) h2 (λ x hx=>hb x (by simp[hx])) λ m e x hx=>by cases e;exact h1 x hx
  rw[Ps,if_pos (by simp only[QP,Bool.and_eq_true,decide_eq_true_eq];omega)];cases p with
  |none=>exact f
  |some m=>
   have:=hm m rfl n S1;simp only;rw[if_neg O1];exact f
def Bk.wo_nc(b:Bk)(out:Nat->Bool):(b.wo out).cs.length=(b.kept out).length:=by simp[Bk.wo]
def Bk.wo_aft(b:Bk)(out:Nat->Bool)(hp:n<(b.kept out).length):Jf (b.wo out).A n=(range (b.kept out).length).filter λ q=>QN b.A out b.cs.length ((b.kept out).getD n 0) ((b.kept out).getD q 0):=by
 have hx:(b.wo out).cs[n]?=some { b.cas ((b.kept out).getD n 0)with af:=((range (b.kept out).length).filter λ q=>QN b.A out b.cs.length ((b.kept out).getD n 0) ((b.kept out).getD q 0)).map λ(q:Nat)=>(q:Int) }:=by
  unfold Bk.wo;simp[getD_eq_getElem?_getD,hp]
 unfold Jf
 have h2:(b.wo out).A[n]?=some ((((range (b.kept out).length).filter λ q=>QN b.A out b.cs.length ((b.kept out).getD n 0) ((b.kept out).getD q 0)).map λ(q:Nat)=>(q:Int)).map Int.toNat):=by
  unfold Bk.A;rw[getElem?_map];show Option.map _ (b.wo out).cs[n]?=_;rw[hx];rfl
 rw[getD_eq_getElem?_getD,h2,Option.getD_some,map_map];have:(Int.toNat ∘ λ(n:Nat)=>(n:Int))=id:=by funext n;simp
 rw[this,map_id]
def Bk.Ok.wo{b:Bk}(h:b.Ok)(out:Nat->Bool):(b.wo out).Ok:=by
 have N:(b.kept out).length<=b.cs.length:=Bk.kpt_len (out:=out) b.cs.length;have B:=b.wo_nc out;have M:=h.nc;have H:∀i∈b.kept out,i<b.cs.length:=λ i hi=>(Bk.kpt_lt (j:=b.cs.length) hi).1
 have E:∀i∈b.kept out,b.cas i∈b.cs:=λ i hi=>by
  simp only[Bk.cas,getD_eq_getElem?_getD,getElem?_eq_getElem (H i hi),Option.getD_some];exact getElem_mem _
 have w:∀c∈(b.wo out).cs,∃i∈b.kept out,c={ b.cas i with af:=((range (b.kept out).length).filter λ p=>QN b.A out b.cs.length i ((b.kept out).getD p 0)).map λ(p:Nat)=>(p:Int) }:=by
  intro c f;obtain⟨i,hi,rfl⟩:=mem_map.1 f;exact⟨i,hi,rfl⟩
 have G:∀i,∀n∈((range (b.kept out).length).filter λ p=>QN b.A out b.cs.length i ((b.kept out).getD p 0)).map (λ(p:Nat)=>(p:Int)),0<=n/\n<(b.wo out).nc:=by
  intro i n L;obtain⟨p,hp,rfl⟩:=mem_map.1 L;have:=(mem_filter.1 hp).1;rw[mem_range]at this;unfold Bk.nc;rw[B];omega
 refine⟨h.nr,O1,λ c f=>?_,λ c f=>?_,λ c f=>?_,λ c f=>?_,λ c f=>?_,?_⟩
 .obtain⟨i,hi,rfl⟩:=w c f;exact h.ag (b.cas i) (E i hi)
 .obtain⟨i,hi,rfl⟩:=w c f;exact h.gl (b.cas i) (E i hi)
 .obtain⟨i,hi,rfl⟩:=w c f;exact h.gs (b.cas i) (E i hi)
 .obtain⟨i,hi,rfl⟩:=w c f;refine SV ?_ (G i) (λ m e=>by cases e);rw[pairwise_map];refine Pairwise.filter _ ?_;refine Pairwise.imp (R:=(· < ·)) (λ h=>O1) pairwise_lt_range
 .obtain⟨i,hi,rfl⟩:=w c f;exact G i
 .obtain⟨ρ,hρ⟩:=pC h.lo;have F:(b.wo out).A.length=(b.kept out).length:=by rw[Bk.A_length,B]
  have K:∀p,p<(b.kept out).length->(b.kept out).getD p 0<b.A.length:=λ p hp=>by
   rw[Bk.A_length];refine H _ ?_;simp only[getD_eq_getElem?_getD,getElem?_eq_getElem hp,Option.getD_some];exact getElem_mem _
  refine jt (λ p hp q I=>?_) (λ p=>ρ ((b.kept out).getD p 0)) λ p hp q I=>?_
  .rw[F]at hp ⊢;rw[b.wo_aft out hp,mem_filter,mem_range]at I;exact I.1
  .rw[F]at hp;rw[b.wo_aft out hp,mem_filter,mem_range]at I;exact FM h.low ρ hρ _ _ _ (K p hp) I.2
