/- Lemmas. No conditions. -/
import Derived.Test.YtnjljnhoaafkiaaGreatDoorC07
set_option linter.all false
open List
namespace Go.TM
open Go.Proofs
variable{d:Nat}{x e n:Int}{t:WK}{l a b:List Int}{c:List (List Int)}{cs:List Qzr}{tk:Qvl}
def Znk(n:Nat):List Int:=(range n).map λ(j:Nat)=>(j:Int)
def Zuc:x∈Znk d↔0<=x/\x<d:=by
 unfold Znk;simp only[mem_map,mem_range];constructor
 .rintro⟨j,h,rfl⟩;omega
 .rintro⟨h1,h2⟩;exact⟨x.toNat,O1,O1⟩
def Zt6(n:Nat):Asc (Znk n):=by
 unfold Znk Asc;rw[pairwise_map];exact pairwise_lt_range.imp λ h=>O1
def Ztu(n:Nat):Znk (n+1)=Znk n++[(n:Int)]:=by unfold Znk;rw[range_succ];simp
def WK.ni(t:WK)(e:Int):Nat:=(t.items e).length
def WK.isItem_iff:t.isItem e n=true↔0<=n/\n<t.ni e:=by
 unfold WK.isItem QP WK.ni;simp only[Bool.and_eq_true,decide_eq_true_eq];omega
def WK.ni8(hf:t.flaw=0)(e:Int):t.ni e<=8:=by
 unfold WK.ni WK.items;split
 .rename_i he;have hb:=WK.isEd_lt he;obtain⟨-,-,b⟩:=WK.flaw_eds hf;rw[getD_eq_getElem?_getD,getElem?_eq_getElem O1];exact b _ (getElem_mem _)
 .simp
structure WK.Lst(t:WK)(e:Int)(l:List Int):Prop where
 asc:Asc l
 its:∀x∈l,t.isItem e x=true
def WK.chk_of{t:WK}{e:Int}:∀{l:List Int}{p:Option Int},(∀m,p=some m->∀x∈l,m<x)->Asc l->(∀x∈l,t.isItem e x=true)->t.chk e p l=0
 |[],_,_,_,_=>rfl
 |a::l,p,hp,ha,hi=>by
  have b:=pairwise_cons.1 ha;have f:t.chk e (some a) l=0:=WK.chk_of (λ m e x hx=>by cases e;exact b.1 x hx) b.2 λ x hx=>hi x (mem_cons_of_mem _ hx);rw[WK.chk_cons,if_pos (hi a (mem_cons_self ..))];cases p with
  |none=>exact f
  |some m=>
   have:=hp m rfl a (mem_cons_self ..);show(if a<=m then(7:Int)else _)=0;rw[if_neg O1];exact f
def WK.Lst.chk{t:WK}{e:Int}{l:List Int}(h:t.Lst e l):t.chk e none l=0:=WK.chk_of (λ m e=>by cases e) h.asc h.its
def WK.Lst.filter{t:WK}{e:Int}{l:List Int}(h:t.Lst e l)(p:Int->Bool):t.Lst e (l.filter p):=⟨h.asc.filter p,λ x hx=>h.its x (mem_filter.1 hx).1⟩
def WK.Lst.len(hf:t.flaw=0)(h:t.Lst e l):l.length<=8:=by
 rcases Zrl hf h.chk S1 with rfl|h
 .simp
 .exact h
def WK.Lst.lt(hf:t.flaw=0)(h:t.Lst e l):∀x∈l,0<=x/\x<8:=λ x hx=>WK.item_lt hf (h.its x hx)
def WK.chkAll_of{t:WK}{e:Int}:∀{b:List (List Int)},(∀l∈b,t.Lst e l)->t.chkAll e b=0
 |[],_=>rfl
 |l::b,h=>by
  rw[WK.chkAll,if_pos (h l (mem_cons_self ..)).chk];exact WK.chkAll_of λ l hl=>h l (mem_cons_of_mem _ hl)
def WK.openF_of(hf:t.flaw=0)(f:t.isEd e=true)(h:∀l∈c,t.Lst e l):t.openF e c=0:=by
 unfold WK.openF;rw[if_pos hf,if_pos f];exact WK.chkAll_of h
def Qi1(a b:List Int):List Int:=a.filter λ n=>!b.contains n
def WK.chosen(t:WK)(e:Int)(bits:Nat):List Int:=(Znk (t.ni e)).filter λ n=>bits.testBit n.toNat
def WK.lst_chosen(t:WK)(e:Int)(bits:Nat):t.Lst e (t.chosen e bits):=
 ⟨(Zt6 _).filter _,λ x hx=>WK.isItem_iff.2 (Zuc.1 (mem_filter.1 hx).1)⟩
def Qzr.lets(c:Qzr)(n:Int):Bool:=c.items.contains n==c.keep
def Znx(cs:List Qzr)(n:Int):Bool:=cs.all λ c=>c.lets n
def Qzr.on_eq(c:Qzr)(l:List Int):c.on l=l.filter c.lets:=by
 unfold Qzr.on Qzr.lets;congr 1;funext n;cases c.items.contains n <;> cases c.keep <;> rfl
def Zq4:∀(cs:List Qzr)(l:List Int),Zkt cs l=l.filter (Znx cs)
 |[],l=>by
  show l=_;exact(filter_eq_self.2 λ _ _=>rfl).symm
 |c::cs,l=>by
  show Zkt cs (c.on l)=_;rw[Zq4 cs,Qzr.on_eq,filter_filter];congr 1;funext n;show(Znx cs n&&c.lets n)=(c.lets n&&Znx cs n);exact Bool.and_comm ..
def WK.cutF_of(hf:t.flaw=0)(f:t.isEd e=true)(hl:t.Lst e l)(w:cs.length<=4)(b:∀c∈cs,t.Lst e c.items):t.cutF e l cs=0:=by
 unfold WK.cutF;rw[if_pos (WK.openF_of hf f λ m hm=>by rw[mem_singleton.1 hm];exact hl),if_neg O1]
 exact WK.chkAll_of λ m hm=>by
  obtain⟨c,h,rfl⟩:=mem_map.1 hm;exact b c h
def WK.cutL_of(h:t.cutF e l cs=0):t.cutL e l cs=l.filter (Znx cs):=by
 unfold WK.cutL;rw[if_pos h,Zq4]
def WK.row(t:WK)(k:Qvl)(x:Int)(l:List Int):List (Int×Int):=(l.filter λ y=>decide (k.lv<=t.lev k.ed x y)).map λ y=>(x,y)
def WK.prs_eq(t:WK)(k:Qvl):t.prs k=k.a.flatMap λ x=>t.row k x k.b:=by
 unfold WK.prs WK.reach;congr 1;funext x;unfold WK.reachRow WK.row;congr 1;refine filter_congr λ y _=>?_;unfold WK.okP;rw[Bool.eq_iff_iff];simp
def WK.talk_of(hf:t.flaw=0)(f:t.isEd e=true)(ha:t.Lst e a)(hb:t.Lst e b)(h1:1<=n)(h5:n<=5):t.talkF e a b n=0:=by
 have h:t.openF e [a,b]=0:=WK.openF_of hf f λ m hm=>by
  rcases mem_cons.1 hm with rfl|hm
  .exact ha
  .rw[mem_singleton.1 hm];exact hb
 unfold WK.talkF;rw[if_pos h,if_pos (by unfold QP;simp[h1,h5])]
def Zuf(x:Int):∀l:List Int,(l.map λ y=>(x,y)).Pairwise (λ p q:Int×Int=>p.1<=q.1)
 |[]=>Pairwise.nil
 |a::l=>by
  rw[map_cons,pairwise_cons];exact⟨λ q b=>by obtain⟨_,_,rfl⟩:=mem_map.1 b;exact Int.le_refl _,Zuf x l⟩
def WK.prs_sorted(ha:Asc tk.a):(t.prs tk).Pairwise (λ p q=>p.1<=q.1):=by
 rw[WK.prs_eq]
 have f:∀x p,p∈t.row tk x tk.b->p.1=x:=λ x p hp=>by
  unfold WK.row at hp;obtain⟨_,_,rfl⟩:=mem_map.1 hp;rfl
 have key:∀l:List Int,Asc l->(l.flatMap λ x=>t.row tk x tk.b).Pairwise (λ p q=>p.1<=q.1):=by
  intro l
  induction l with
  |nil=>intro _;exact Pairwise.nil
  |cons x l F=>
   intro h;have E:=pairwise_cons.1 h;rw[flatMap_cons,pairwise_append];refine⟨Zuf _ _,F E.2,λ p hp q w=>?_⟩;obtain⟨G,B,w⟩:=mem_flatMap.1 w;have H:=f _ _ hp;have I:=f _ _ w;have:=E.1 G B;omega
 exact key tk.a ha
def WK.proof_some(ha:Asc tk.a)(f:∀x∈tk.a,0<=x):(Qlh tk.a (t.mostT tk) (t.prs tk)).isSome=true:=by
 have b:=(Zny (la:=tk.a) ha.nodup (t.mostT tk) (t.prs tk) (-1) [] (WK.prs_sorted ha) (λ p hp=>(WK.mem_prs.1 hp).1)).2
 have e:(t.prs tk).filter (Qzp (-1) [])=t.prs tk:=filter_eq_self.2 λ p hp=>by
  have:=f _ (WK.mem_prs.1 hp).1;unfold Qzp;simp;omega
 rw[e]at b;exact b (Nat.le_refl _)
section
variable{t:WK}{tk:Qvl}(ha:Asc tk.a)(hb:Asc tk.b)
include ha hb
def WK.agr_cover:Zh0 (t.agr tk).1 (t.agr tk).2 (t.prs tk):=by
 have h:=WK.agr_best (t:=t) ha hb;rw[h.left];exact t.left_cover tk _
def WK.agr_one:(t.agr tk).1.Sublist tk.a:=(WK.agr_best (t:=t) ha hb).sub
def WK.agr_two:(t.agr tk).2.Sublist tk.b:=by
 have h:=WK.agr_best (t:=t) ha hb;rw[h.left];exact filter_sublist ..
end
variable{A v:List Int}
def Q32:x∈Qi1 a b↔x∈a/\x∉b:=by
 unfold Qi1;rw[mem_filter];simp
def WK.none_left:t.prs ⟨e,n,Qi1 A a,Qi1 l v⟩=[]↔Zh0 a v (t.prs ⟨e,n,A,l⟩):=by
 rw[eq_nil_iff_forall_not_mem];constructor
 .intro h p hp;obtain⟨h1,h2,b⟩:=WK.mem_prs.1 hp;apply Classical.byContradiction;intro f;exact h p (WK.mem_prs.2 ⟨Q32.2 ⟨h1,λ k=>f (.inl k)⟩,Q32.2 ⟨h2,λ k=>f (.inr k)⟩,b⟩)
 .intro h p hp;obtain⟨h1,h2,b⟩:=WK.mem_prs.1 hp;have h1:=Q32.1 h1;have h2:=Q32.1 h2;rcases h p (WK.mem_prs.2 ⟨h1.1,h2.1,b⟩)with k|k
  .exact h1.2 k
  .exact h2.2 k
def agB(B:Bool):Bk:=⟨[⟨#[111,110,101]⟩,⟨#[116,119,111]⟩],bif B then[⟨⟨#[111,112,112]⟩,1,[[0]],[]⟩]else[]⟩
def Zum:∀B,(agB B).flaw Zg=0/\(agB B).askF 1=0/\(agB B).fatR 1=(bif B then 2 else 1)/\((agB B).wdF 1).length=(bif B then 1 else 0):=by
 intro B;cases B <;> exact⟨by decide +kernel,by decide +kernel,by decide +kernel,by decide +kernel⟩
def WK.Lst.sub(h:t.Lst e l)(s:A.Sublist l):t.Lst e A:=⟨h.asc.sublist s,λ x hx=>h.its x (s.subset hx)⟩
def Zt5(ha:Asc A)(hb:Asc l):t.prs ⟨e,n,Qi1 A (t.agr ⟨e,n,A,l⟩).1,Qi1 l (t.agr ⟨e,n,A,l⟩).2⟩=[]:=
 WK.none_left.2 (WK.agr_cover (t:=t) (tk:=⟨e,n,A,l⟩) ha hb)
def agr_two{O:List Int}(h:t.prs ⟨e,n,l,a⟩=[])(i:Nat)(B:Bool)(b:B=!(t.prs ⟨e,n,if i=0 then A else l,if i=0 then O else a⟩).isEmpty)(hi:i=1):B=false:=by
 subst hi;rw[b,if_neg D1,if_neg D1,h];rfl
