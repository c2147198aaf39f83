/- Lemmas. No conditions. -/
import Derived.Test.YtnjljnhoaafkiaaGreatDoorC03
set_option linter.all false
open List
namespace Go.TM
def Zcr:List Hs->List ByteArray->Int
 |[],_=>0
 |it::r,p=>if Zk it.name then(if inS it.name p then 5 else if QP it.cls 1 45 then Zcr r (p++[it.name])else 1)else 4
def edF(l:List Hs):Int:=if 8<l.length then 2 else Zcr l []
def Zpi:List (List Hs)->Int
 |[]=>0
 |l::r=>if edF l=0 then Zpi r else edF l
def Zpz(e:Int):∀(l:List Hs)(s:List (Int×ByteArray))(p:List ByteArray),(∀n,(e,n)∈s↔n∈p)->(Qgb e l s).1=Zcr l p/\∀q∈(Qgb e l s).2,q∈s\/q.1=e
 |[],s,p,_=>⟨rfl,λ q b=>.inl b⟩
 |it::r,s,p,h=>by
  have f:inS (e,it.name) s=inS it.name p:=by unfold inS;rw[Bool.eq_iff_iff];simp[h]
  unfold Qgb Zcr Qzw;rw[f];cases h1:Zk it.name with
  |false=>exact⟨S1,λ q b=>.inl (by simpa using b)⟩
  |true=>
   cases h2:inS it.name p with
   |true=>exact⟨S1,λ q b=>.inl (by simpa using b)⟩
   |false=>
    cases z:QP it.cls 1 45 with
    |false=>exact⟨S1,λ q b=>.inl (by simpa using b)⟩
    |true=>
     have w:=Zpz e r (s++[(e,it.name)]) (p++[it.name]) (λ n=>by simp[h]);simp only[if_true,Bool.false_eq_true,if_false];refine⟨w.1,λ q b=>?_⟩;rcases w.2 q b with b|b
     .rcases mem_append.1 b with b|b
      .exact .inl b
      .simp at b;exact .inr (by rw[b])
     .exact .inr b
def Zpy:∀(z:List (List Hs))(e:Int)(s:List (Int×ByteArray)),(∀q∈s,q.1<e)->Qjn e z s=Zpi z
 |[],_,_,_=>rfl
 |l::r,e,s,h=>by
  unfold Qjn Zpi edF;by_cases w:8<l.length
  .simp[w]
  .have k:=Zpz e l s [] (λ n=>by simp;intro B;have:=h _ B;simp at this);simp only[w,if_false,k.1];by_cases f:Zcr l []=0
   .simp only[f,if_true];refine Zpy r (e+1) _ λ q b=>?_;rcases k.2 q b with b|b
    .have:=h q b;omega
    .omega
   .simp[f]
def WJ.chkItems_eq(t:WJ):t.chkItems=if QP t.eds.length 1 3 then Zpi t.eds else 2:=by
 unfold WJ.chkItems;rw[Zpy t.eds 0 [] (λ q h=>by cases h)]
def Zpl(c:UInt8):Bool:=QP (c.toNat:Int) 97 122
def Zq5(c:UInt8):Bool:=QP (c.toNat:Int) 48 57
def Zq3(c:UInt8):Gz c=(!Zpl c&&!Zq5 c):=by
 unfold Gz Zpl Zq5 QP;rw[Bool.eq_iff_iff];simp
def Zns:List UInt8->Nat->Bool
 |[],_=>true
 |c::r,i=>(Zpl c|| (Zq5 c&&!decide (i=0)))&&Zns r (i+1)
def Zrd:∀(l:List UInt8)(i:Nat),0<i->Zns l i=!(l.any Gz)
 |[],_,_=>rfl
 |c::r,i,h=>by
  rw[Zns,Zrd r (i+1) O1,any_cons,Zq3,Bool.not_or,Bool.not_and,Bool.not_not,Bool.not_not];have:decide (i=0)=false:=decide_eq_false O1;rw[this];cases Zpl c <;> cases Zq5 c <;> rfl
def Zsn(s:ByteArray):Zk s=(QP s.size 1 10&&Zns s.data.toList 0):=by
 unfold Zk;have b:s.size=s.data.toList.length:=(Array.length_toList (xs:=s.data)).symm;cases h:s.data.toList with
 |nil=>
  have:QP (s.size:Int) 1 10=false:=by unfold QP;rw[b,h];rfl
  rw[this];rfl
 |cons c r=>
  congr 1;rw[Zns,Zrd r 1 O1,any_cons,Zq3,Bool.not_or,Bool.not_and,Bool.not_not,Bool.not_not]
  have f:(!(decide ((c.toNat:Int)<97))&&!(decide ((c.toNat:Int) > 122)))=Zpl c:=by
   unfold Zpl QP;rw[Bool.eq_iff_iff];simp only[Bool.and_eq_true,Bool.not_eq_true',decide_eq_false_iff_not,decide_eq_true_eq];omega
  simp only[f];cases Zpl c <;> simp
def WJ.mem_reach{t:WJ}{tk:Qp6}{x y:List Int}{p:Int×Int}:p∈t.reach tk x y↔p.1∈tk.a/\p.2∈tk.b/\p.1∉x/\p.2∉y/\tk.lv<=t.lev tk.ed p.1 p.2:=by
 have h:∀one two,t.okP tk x y one two=true↔one∉x/\two∉y/\tk.lv<=t.lev tk.ed one two:=λ one two=>by
  unfold WJ.okP;rw[Bool.not_eq_true',Bool.or_eq_false_iff,Bool.or_eq_false_iff,decide_eq_false_iff_not];constructor
  .rintro⟨⟨h1,h2⟩,f⟩;exact⟨by simpa using h1,by simpa using h2,O1⟩
  .rintro⟨h1,h2,f⟩;exact⟨⟨by simpa using h1,by simpa using h2⟩,O1⟩
 unfold WJ.reach WJ.reachRow;rw[mem_flatMap];constructor
 .rintro⟨one,h1,h2⟩;obtain⟨two,f,rfl⟩:=mem_map.1 h2;obtain⟨f,w⟩:=mem_filter.1 f;exact⟨h1,f,(h _ _).1 w⟩
 .rintro⟨h1,h2,f⟩;exact⟨p.1,h1,mem_map.2 ⟨p.2,mem_filter.2 ⟨h2,(h _ _).2 f⟩,rfl⟩⟩
def WJ.prs(t:WJ)(tk:Qp6):List (Int×Int):=t.reach tk [] []
def WJ.mem_prs{t:WJ}{tk:Qp6}{p:Int×Int}:p∈t.prs tk↔p.1∈tk.a/\p.2∈tk.b/\tk.lv<=t.lev tk.ed p.1 p.2:=by
 unfold WJ.prs;rw[WJ.mem_reach];simp
section
variable{t:WJ}{tk:Qp6}(ha:Asc tk.a)(hb:Asc tk.b)
include ha
include hb
end
variable{b:Bk}
structure Bk.Own1(b:Bk):Prop where
 ok:b.Ok
 rs:0<b.rs.length
 ag:∀c∈b.cs,0<c.ag.toNat
 gs:∀c∈b.cs,c.gs=[[0]]
variable{b:Bk}
def Bk.Own1.first(h:b.Own1){X:List Nat}(w:X.Nodup)(hl:∀i∈X,i<b.cs.length):(b.ends X).1.getD 0 false=true:=by
 rw[(b.end_facts h.ok X.length X rfl w hl).2 0 h.rs];simp only[Bool.not_eq_true',any_eq_false];intro i f;have:=h.ag _ (Bk.mem_cas (hl i f));simp;omega
def Bk.Own1.wins(h:b.Own1){i:Nat}(f:i<b.cs.length):b.fatC i=1:=by
 rw[Bk.fatC_one];intro o w;obtain⟨X,Y,e⟩:=w.split f;rw[b.end_won h.ok w e,h.gs _ (Bk.mem_cas f)];have h1:=w.nod;have h2:=w.low;rw[e]at h1 h2;have:=h.first (nodup_append.1 h1).1 λ i f=>h2 i (mem_append_left _ f);unfold LY;simpa using this
def Bk.Own1.falls(h:b.Own1){r:Nat}(z:r<b.rs.length){c:Cs}(w:c∈b.cs)(ha:c.ag.toNat=r):b.fatR r=2:=by
 obtain⟨i,f,e⟩:=getElem_of_mem w
 have:b.cas i=c:=by
  unfold Bk.cas;rw[getD_eq_getElem?_getD,getElem?_eq_getElem f,e];rfl
 exact Bk.won_falls b h.ok f z (by rw[this];exact ha) (h.wins f)
def Bk.Own1.stands(h:b.Own1){r:Nat}(z:r<b.rs.length)(f:∀c∈b.cs,c.ag.toNat≠r):b.fatR r=1:=
 Bk.safe_stands b h.ok z λ i w ha=>absurd ha (f _ (Bk.mem_cas w))
def Zt2:∀(f:Nat->Bool),∃m,m<32/\∀i,i<5->f i=m.testBit i:=by
 have key:∀a b c d e:Bool,∃m,m<32/\m.testBit 0=a/\m.testBit 1=b/\m.testBit 2=c/\m.testBit 3=d/\m.testBit 4=e:=by
  have:∀a b c d e:Bool,(range 32).any λ m=>m.testBit 0==a&&m.testBit 1==b&&m.testBit 2==c&&m.testBit 3==d&&m.testBit 4==e:=D1
  intro a b c d e;obtain⟨m,hm,h⟩:=any_eq_true.1 (this a b c d e);simp only[Bool.and_eq_true,beq_iff_eq]at h;exact⟨m,mem_range.1 hm,h.1.1.1.1,h.1.1.1.2,h.1.1.2,h.1.2,h.2⟩
 intro f;obtain⟨m,hm,w,h1,h2,z,B⟩:=key (f 0) (f 1) (f 2) (f 3) (f 4);refine⟨m,hm,λ i E=>?_⟩;rcases i with _|_|_|_|_|i
 .exact w.symm
 .exact h1.symm
 .exact h2.symm
 .exact z.symm
 .exact B.symm
 .omega
def Qvv(k:Nat):ByteArray := "item".toUTF8.push (UInt8.ofNat (48+k))
def Qdf(k:Nat):Cs:=⟨ "opp".toUTF8.push (UInt8.ofNat (48+k)),(k:Int)+1,[[0]],[]⟩
def Qf8(p:Nat->Bool)(k:Nat):Bk:=⟨ "owner".toUTF8::(range k).map Qvv,((range k).filter p).map Qdf⟩
def Zrw{p q:Nat->Bool}{k:Nat}(h:∀i,i<k->p i=q i):Qf8 p k=Qf8 q k:=by
 unfold Qf8;rw[filter_congr λ i b=>h i (mem_range.1 b)]
def Zsl:∀k m,k<6->m<32->(Qf8 m.testBit k).flaw Zk=0:=by
 have:(range 6).all (λ k=>(range 32).all λ m=>(Qf8 m.testBit k).flaw Zk==0)=true:=by decide +kernel
 intro k m b hm;have h1:=all_eq_true.1 this k (mem_range.2 b);simpa using all_eq_true.1 h1 m (mem_range.2 hm)
def Zoz(p:Nat->Bool){k:Nat}(f:k<=5):(Qf8 p k).flaw Zk=0:=by
 obtain⟨m,hm,h⟩:=Zt2 p;rw[Zrw λ i b=>h i O1];exact Zsl k m O1 hm
def Zp4(p:Nat->Bool){k:Nat}(f:k<=5):(Qf8 p k).Own1:=by
 refine⟨Bk.ok_of (Zoz p f),by simp[Qf8],λ c b=>?_,λ c b=>?_⟩
 .obtain⟨i,-,rfl⟩:=mem_map.1 b;show 0<((i:Int)+1).toNat;omega
 .obtain⟨i,-,rfl⟩:=mem_map.1 b;rfl
def Zrb(p:Nat->Bool)(k:Nat):(Qf8 p k).rs.length=k+1:=by simp[Qf8]
def Zld(p:Nat->Bool){k:Nat}(F:k<=5):(Qf8 p k).fatesR=1::(range k).map λ i=>if p i then 2 else 1:=by
 have b:=Zp4 p F;have B:(Qf8 p k).fatR 0=1:=b.stands b.rs λ c f e=>by have:=b.ag c f;omega
 have w:∀i,i<k->(Qf8 p k).fatR (i+1)=if p i then 2 else 1:=by
  intro i w;have z:i+1<(Qf8 p k).rs.length:=by rw[Zrb];omega
  cases e:p i with
  |true=>exact b.falls z (mem_map.2 ⟨i,mem_filter.2 ⟨mem_range.2 w,e⟩,rfl⟩) (by show((i:Int)+1).toNat=i+1;omega)
  |false=>
   refine b.stands z λ c f ea=>?_;obtain⟨j,E,rfl⟩:=mem_map.1 f;have:((j:Int)+1).toNat=i+1:=ea;obtain rfl:j=i:=O1
   rw[(mem_filter.1 E).2]at e;cases e
 unfold Bk.fatesR;rw[Zrb,range_succ_eq_map,map_cons,B,map_map];congr 1;exact map_congr_left λ i h=>w i (mem_range.1 h)
end Go.TM





