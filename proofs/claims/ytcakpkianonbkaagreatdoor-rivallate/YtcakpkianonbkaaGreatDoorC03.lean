/- Lemmas. No conditions. -/
import Derived.Test.YtcakpkianonbkaaGreatDoorC01
import Derived.Test.YtcakpkianonbkaaGreatDoorB43
set_option linter.all false
open List
namespace Go.TM
variable{b:Bk}
def Qg4:∀{l:List Int}{m:Nat},l.Pairwise (· < ·)->(parts l m).Pairwise λ x y=>Qbq x y=true
 |l,0,_=>by rw[Qdr];exact pairwise_singleton ..
 |[],m+1,_=>.nil
 |a::l,m+1,h=>by
  obtain⟨h1,h2⟩:=pairwise_cons.1 h;rw[show parts (a::l) (m+1)=(parts l m).map (a::·)++parts l (m+1) from rfl,pairwise_append];refine⟨pairwise_map.2 ((Qg4 h2).imp λ{x y}hxy=>by simpa[Qbq]using hxy),Qg4 h2,λ x hx y hy=>?_⟩;obtain⟨x',-,rfl⟩:=mem_map.1 hx;obtain⟨h3,h4⟩:=Qc6.1 hy;cases y with
  |nil=>cases h4
  |cons c y=>
   have:=h1 c (h3.subset (mem_cons_self ..));simp only[Qbq];rw[if_neg (by omega)];simpa using this
def Qqi{l:List Int}{p:List Int->Bool}(hl:l.Pairwise (· < ·)):∀(n m:Nat){x:List Int},Qbh l p m n=some x ->
  x.Sublist l/\p x=true/\∀y:List Int,y.Sublist l->p y=true->m<=y.length->x.length<y.length\/x.length=y.length/\Qbq y x=false
 |0,m,x,h=>by cases h
 |n+1,m,x,h=>by
  rw[Q53]at h;cases hf:(parts l m).find? p with
  |some z=>
   rw[hf]at h;obtain rfl:z=x:=Option.some.inj h;obtain⟨hp,X,Y,e,hX⟩:=find?_eq_some_iff_append.1 hf;obtain⟨h1,h2⟩:=Qc6.1 (show z∈parts l m by rw[e];simp);refine⟨h1,hp,λ y hy hpy hm=>?_⟩;by_cases hlen:y.length=m
   .refine .inr ⟨by omega,?_⟩;have hmem:=Qc6.2 ⟨hy,hlen⟩;have hs:=Qg4 (m:=m) hl;rw[e]at hmem hs;rw[pairwise_append]at hs;rcases mem_append.1 hmem with h|h
    .have:=hX y h;rw[hpy]at this;cases this
    .rcases mem_cons.1 h with rfl|h
     .exact Qq7 _
     .exact Qq4 _ _ ((pairwise_cons.1 hs.2.1).1 y h)
   .exact .inl (by omega)
  |none=>
   rw[hf]at h;obtain⟨h1,h2,h3⟩:=Qqi hl n (m+1) h;refine⟨h1,h2,λ y hy hpy hm=>?_⟩;by_cases hlen:y.length=m
   .have:=find?_eq_none.1 hf y (Qc6.2 ⟨hy,hlen⟩);exact absurd hpy this
   .exact h3 y hy hpy (by omega)
def Qqe{l:List Int}{p:List Int->Bool}:∀(n m:Nat),Qbh l p m n=none->∀y:List Int,y.Sublist l->m<=y.length->y.length<m+n->p y=false
 |0,m,_,y,_,h1,h2=>by omega
 |n+1,m,h,y,hy,h1,h2=>by
  rw[Q53]at h;cases hf:(parts l m).find? p with
  |some z=>rw[hf]at h;cases h
  |none=>
   rw[hf]at h;by_cases hlen:y.length=m
   .simpa using find?_eq_none.1 hf y (Qc6.2 ⟨hy,hlen⟩)
   .exact Qqe n (m+1) h y hy (by omega) (by omega)
def Bk.every_asc(b:Bk):b.every.Pairwise (· < ·):=pairwise_map.2 (pairwise_lt_range.imp λ h=>by omega)
def Bk.every_len(b:Bk):b.every.length=b.cs.length:=by simp[Bk.every]
def Qxm{y:List Int}(h:∀n∈y,0<=n)(k:Nat):(Qmi y).testBit k=true↔(k:Int)∈y:=by
 unfold Qmi;rw[Wy,contains_iff_mem,mem_map];constructor
 .rintro⟨n,hn,e⟩;have:=h n hn;have:n=(k:Int):=by omega
  exact this▸hn
 .intro hk;exact⟨_,hk,by simp⟩
def Bk.every_pos{y:List Int}(h:y.Sublist b.every):∀n∈y,0<=n:=λ n hn=>by
 obtain⟨k,-,rfl⟩:=mem_map.1 (h.subset hn);omega
def Bk.wd_ag(hok:b.Ok){r:Nat}(hr:r<b.rs.length):b.wdP r (b.every.filter λ n=>(b.cas n.toNat).ag==(r:Int))=true:=by
 have hs:(b.every.filter λ n=>(b.cas n.toNat).ag==(r:Int)).Sublist b.every:=filter_sublist;unfold Bk.wdP;rw[beq_iff_eq];have ho:=hok.wo (Qmi (b.every.filter λ n=>(b.cas n.toNat).ag==(r:Int))).testBit;refine Bk.safe_stands _ ho hr λ i hi ha=>?_;exfalso
 obtain⟨j,hj,e⟩:∃j∈b.kept (Qmi (b.every.filter λ n=>(b.cas n.toNat).ag==(r:Int))).testBit,((b.wo (Qmi (b.every.filter λ n=>(b.cas n.toNat).ag==(r:Int))).testBit).cas i).ag=(b.cas j).ag:=by
  obtain⟨j,hj,e⟩:=mem_map.1 (Bk.mem_cas hi);exact⟨j,hj,by rw[<- e]⟩
 obtain⟨h1,h2⟩:=mem_filter.1 hj;rw[mem_range]at h1;have h0:=(hok.ag _ (Bk.mem_cas h1)).1
 have hin:(j:Int)∈b.every.filter λ n=>(b.cas n.toNat).ag==(r:Int):=by
  rw[mem_filter];refine⟨mem_map.2 ⟨j,mem_range.2 h1,rfl⟩,?_⟩;rw[Int.toNat_natCast,beq_iff_eq];omega
 rw[(Qxm (Bk.every_pos hs) j).2 hin]at h2;cases h2
def Bk.wd_facts(hok:b.Ok){r:Nat}(hr:r<b.rs.length):(b.wdL r).Sublist b.every/\b.wdP r (b.wdL r)=true /\
  (∀y:List Int,y.Sublist b.every->b.wdP r y=true->(b.wdL r).length<y.length\/(b.wdL r).length=y.length/\Qbq y (b.wdL r)=false):=by
 unfold Bk.wdL;cases h:Qbh b.every (b.wdP r) 0 (b.cs.length+1)with
 |some x=>
  obtain⟨h1,h2,h3⟩:=Qqi b.every_asc _ _ h;exact⟨h1,h2,λ y hy hp=>h3 y hy hp (Nat.zero_le _)⟩
 |none=>
  have hs:(b.every.filter λ n=>(b.cas n.toNat).ag==(r:Int)).Sublist b.every:=filter_sublist;have hle:=hs.length_le;rw[b.every_len]at hle;have:=Qqe _ _ h _ hs (Nat.zero_le _) (by omega);rw[Bk.wd_ag hok hr]at this;cases this
end Go.TM
namespace Go.TM
structure Bk.Sure(b:Bk):Prop where
 ok:b.Ok
 rs:0<b.rs.length
 ag:∀c∈b.cs,c.ag=0
 gs:∀c∈b.cs,[]∈c.gs
variable{b:Bk}
def Bk.Sure.two(h:b.Sure)(hc:0<b.cs.length):b.fatR 0=2:=by
 have hm:b.cas 0∈b.cs:=Bk.mem_cas hc;exact Bk.won_falls b h.ok hc h.rs (by rw[h.ag _ hm];rfl) (Bk.sure_wins b h.ok hc (h.gs _ hm))
def Bk.Sure.one(h:b.Sure)(hc:b.cs.length=0):b.fatR 0=1:=
 Bk.safe_stands b h.ok h.rs λ i hi=>absurd hi (by omega)
def Bk.Sure.wo(h:b.Sure)(out:Nat->Bool):(b.wo out).Sure:=by
 refine⟨h.ok.wo out,h.rs,λ c hc=>?_,λ c hc=>?_⟩
 .obtain⟨i,hi,rfl⟩:=mem_map.1 hc;exact h.ag (b.cas i) (Bk.mem_cas (mem_range.1 (mem_filter.1 hi).1))
 .obtain⟨i,hi,rfl⟩:=mem_map.1 hc;exact h.gs (b.cas i) (Bk.mem_cas (mem_range.1 (mem_filter.1 hi).1))
def Bk.Sure.wd(h:b.Sure):(b.wdL 0).length=b.cs.length:=by
 obtain⟨h1,h2,-⟩:=Bk.wd_facts (b:=b) h.ok h.rs;have h2:(b.wo (Qmi (b.wdL 0)).testBit).fatR 0=1:=by simpa[Bk.wdP]using h2
 have hz:(b.wo (Qmi (b.wdL 0)).testBit).cs.length=0:=by
  rcases Nat.eq_zero_or_pos (b.wo (Qmi (b.wdL 0)).testBit).cs.length with e|e
  .exact e
  .rw[(h.wo _).two e]at h2;cases h2
 have hk:∀i,i<b.cs.length->(i:Int)∈b.wdL 0:=by
  intro i hi;rw[<- Qxm (Bk.every_pos h1)];cases e:(Qmi (b.wdL 0)).testBit i with
  |true=>rfl
  |false=>
   have hm:i∈b.kept (Qmi (b.wdL 0)).testBit:=mem_filter.2 ⟨mem_range.2 hi,by simp[e]⟩;have hl:(b.wo (Qmi (b.wdL 0)).testBit).cs.length=(b.kept (Qmi (b.wdL 0)).testBit).length:=by simp[Bk.wo]
   have:=length_pos_of_mem hm;omega
 have hs:b.cs.length<=((b.wdL 0).map Int.toNat).length:=Q11 λ i hi=>mem_map.2 ⟨i,hk i hi,rfl⟩;have:=h1.length_le;rw[length_map]at hs;rw[b.every_len]at this;omega
def Qd4(k:Nat):Cs:=⟨ "opp".toUTF8.push (UInt8.ofNat (48+k)),0,[[]],[]⟩
def Qah(p:Nat->Bool)(k:Nat):Bk:=⟨["right".toUTF8],((range k).filter p).map Qd4⟩
def Q61{p q:Nat->Bool}{k:Nat}(h:∀i,i<k->p i=q i):Qah p k=Qah q k:=by
 unfold Qah;rw[filter_congr λ i hi=>h i (mem_range.1 hi)]
def Q65:∀m,m<32->(Qah m.testBit 5).flaw Zf=0:=by
 have:(range 32).all (λ m=>(Qah m.testBit 5).flaw Zf==0)=true:=by decide +kernel
 intro m hm;simpa using all_eq_true.1 this m (mem_range.2 hm)
def Qgz(p:Nat->Bool):(Qah p 5).flaw Zf=0:=by
 have hb:∀(f:Nat->Bool),∃m,m<32/\∀i,i<5->f i=m.testBit i:=by
  have key:∀a b c d e:Bool,∃m,m<32/\m.testBit 0=a/\m.testBit 1=b/\m.testBit 2=c/\m.testBit 3=d/\m.testBit 4=e:=by
   have:∀a b c d e:Bool,(range 32).any λ m=>m.testBit 0==a&&m.testBit 1==b&&m.testBit 2==c&&m.testBit 3==d&&m.testBit 4==e:=by decide
   intro a b c d e;obtain⟨m,hm,h⟩:=any_eq_true.1 (this a b c d e);simp only[Bool.and_eq_true,beq_iff_eq]at h;exact⟨m,mem_range.1 hm,h.1.1.1.1,h.1.1.1.2,h.1.1.2,h.1.2,h.2⟩
  intro f;obtain⟨m,hm,h0,h1,h2,h3,h4⟩:=key (f 0) (f 1) (f 2) (f 3) (f 4);refine⟨m,hm,λ i hi=>?_⟩;rcases i with _|_|_|_|_|i
  .exact h0.symm
  .exact h1.symm
  .exact h2.symm
  .exact h3.symm
  .exact h4.symm
  .omega
 obtain⟨m,hm,h⟩:=hb p;rw[Q61 h];exact Q65 m hm
def Qdz(p:Nat->Bool):(Qah p 5).Sure:=by
 refine⟨Bk.ok_of (Qgz p),by show 0<1;omega,λ c hc=>?_,λ c hc=>?_⟩
 .obtain⟨i,-,rfl⟩:=mem_map.1 hc;rfl
 .obtain⟨i,-,rfl⟩:=mem_map.1 hc;exact mem_singleton.2 rfl
def Q62{p q:Nat->Bool}(h:∀i,p i=true->q i=true)(h0:0<(Qah p 5).cs.length):0<(Qah q 5).cs.length:=by
 obtain⟨c,hc⟩:=exists_mem_of_length_pos h0;obtain⟨i,hi,rfl⟩:=mem_map.1 hc;obtain⟨h1,h2⟩:=mem_filter.1 hi;exact length_pos_of_mem (mem_map.2 ⟨i,mem_filter.2 ⟨h1,h i h2⟩,rfl⟩)
end Go.TM
