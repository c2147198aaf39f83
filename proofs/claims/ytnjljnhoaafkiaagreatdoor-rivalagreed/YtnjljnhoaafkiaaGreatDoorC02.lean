/- Lemmas. No conditions. -/
import Derived.Test.YtnjljnhoaafkiaaGreatDoorB32
set_option linter.all false
open List
namespace Go.TM
variable{ps L:List (Int×Int)}{l l' m as:List Int}{p:Int×Int}{y x o:Int}{st:Nat×List (Int×Int)}{i a b r f v u:Nat}
def look(y:Int):List (Int×Int)->Option Int
 |[]=>none
 |p::r=>if y=p.1 then some p.2 else look y r
def Qzw(y x:Int):List (Int×Int)->List (Int×Int)
 |[]=>[(y,x)]
 |p::r=>if y=p.1 then(p.1,x)::r else p::Qzw y x r
def Zlm(y x z:Int):∀m,look z (Qzw y x m)=if z=y then some x else look z m
 |[]=>by simp only[Qzw,look]
 |p::r=>by
  simp only[Qzw];split
  .rename_i h;subst h;simp only[look];split <;> rfl
  .rename_i h;simp only[look,Zlm y x z r];split
   .rename_i h1;subst h1;rw[if_neg (λ e=>h e.symm)]
   .rfl
structure GS where
 seen:List Int
 own:List (Int×Int)
def Qdf(g:Int->GS->Bool×GS)(one:Int):List (Int×Int)->GS->Bool×GS
 |[],s=>(false,s)
 |p::r,s=>
  if p.1≠one\/p.2∈s.seen then Qdf g one r s
  else match look p.2 s.own with
   |none=>(true,⟨s.seen++[p.2],Qzw p.2 one s.own⟩)
   |some o=>match g o ⟨s.seen++[p.2],s.own⟩with
    |(true,b)=>(true,⟨b.seen,Qzw p.2 one b.own⟩)
    |(false,b)=>Qdf g one r b
def Zlq(ps:List (Int×Int)):Nat->Int->GS->Bool×GS
 |0,_,s=>(false,s)
 |n+1,one,s=>Qdf (Zlq ps n) one ps s
def Qgb(ps:List (Int×Int))(st:Nat×List (Int×Int))(a:Int):Nat×List (Int×Int):=
 match Zlq ps (ps.length+1) a ⟨[],st.2⟩with
 |(true,s)=>(st.1+1,s.own)
 |(false,s)=>(st.1,s.own)
def Qz2(as:List Int)(ps:List (Int×Int)):Nat:=(as.foldl (Qgb ps) (0,[])).1
def Qbg(ps:List (Int×Int))(s:List Int):Nat:=(ps.filter λ p=>!decide (p.2∈s)).length
def Zq8(ps:List (Int×Int))(s:List Int):Qbg ps s<=ps.length:=length_filter_le ..
def Q3z(h:∀y,y∈l->y∈l'):Qbg ps l'<=Qbg ps l:=by
 unfold Qbg
 induction ps with
 |nil=>simp
 |cons p r f=>
  simp only[filter_cons];by_cases h1:p.2∈l
  .have h2:=h _ h1;simp[h1,h2];exact f
  .by_cases h2:p.2∈l'
   .simp[h1,h2];omega
   .simp[h1,h2];exact f
def Znj(h:∀y,y∈l->y∈l')(hp:p∈ps)(h1:p.2∉l)(h2:p.2∈l'):Qbg ps l'<Qbg ps l:=by
 induction ps with
 |nil=>cases hp
 |cons q r w=>
  have hm:Qbg r l'<=Qbg r l:=Q3z h;unfold Qbg at hm w ⊢;simp only[filter_cons];rcases mem_cons.1 hp with rfl|hp
  .simp[h1,h2];omega
  .have:=w hp;by_cases f:q.2∈l
   .have h4:=h _ f;simp[f,h4];exact this
   .by_cases h4:q.2∈l'
    .simp[f,h4];omega
    .simp[f,h4];exact this
structure Zrw(ps:List (Int×Int))(l:List (Int×Int))(one:Int)(s s':GS):Prop where
 own:s'.own=s.own
 sub:∀y,y∈s.seen->y∈s'.seen
 all:∀y,(one,y)∈l->y∈s'.seen
 new:∀y,y∈s'.seen->y∈s.seen\/∃o,look y s.own=some o/\∀z,(o,z)∈ps->z∈s'.seen
def Ze3{ps:List (Int×Int)}{g:Int->GS->Bool×GS}{one:Int}{n:Nat}
  (H:∀o s b,Qbg ps s.seen<n->g o s=(false,b)->Zrw ps ps o s b) :
  ∀(l:List (Int×Int))(s b:GS),(∀p,p∈l->p∈ps)->Qbg ps s.seen<n+1->Qdf g one l s=(false,b)->Zrw ps l one s b
 |[],s,b,_,_,h=>by
  simp only[Qdf,Prod.mk.injEq,true_and]at h;subst h;exact⟨rfl,λ _ h=>h,λ y h=>(by cases h),λ y h=>.inl h⟩
 |p::r,s,b,hl,P,h=>by
  simp only[Qdf]at h;have K:∀q,q∈r->q∈ps:=λ q Q=>hl q (mem_cons_of_mem _ Q);split at h
  .rename_i f;have k:=Ze3 H r s b K P h;refine⟨k.own,k.sub,λ y hy=>?_,k.new⟩;rcases mem_cons.1 hy with e|hy
   .subst e;rcases f with f|f
    .exact absurd rfl f
    .exact k.sub _ f
   .exact k.all y hy
  .rename_i f;have M:p.1=one:=Classical.byContradiction λ e=>f (.inl e);have G:p.2∉s.seen:=λ e=>f (.inr e);split at h
   .simp at h
   .rename_i o ho;split at h
    .simp at h
    .rename_i s_1 hg1;have N:Qbg ps (s.seen++[p.2])<Qbg ps s.seen:=Znj (λ y hy=>mem_append_left _ hy) (hl p (mem_cons_self ..)) G S1;have E:=H o _ _ (show Qbg ps (s.seen++[p.2])<n by omega) hg1;have w:∀y,y∈s.seen->y∈s_1.seen:=λ y hy=>E.sub y (mem_append_left _ hy);have hm:Qbg ps s_1.seen<=Qbg ps s.seen:=Q3z w;have B:=Ze3 H r s_1 b K O1 h;refine⟨B.own.trans E.own,λ y hy=>B.sub y (w y hy),λ y hy=>?_,λ y hy=>?_⟩
     .rcases mem_cons.1 hy with e|hy
      .subst e;exact B.sub _ (E.sub _ S1)
      .exact B.all y hy
     .rcases B.new y hy with h1|⟨o',h1,h2⟩
      .rcases E.new y h1 with F|⟨o',F,L⟩
       .rcases mem_append.1 F with h5|h5
        .exact .inl h5
        .rw[mem_singleton]at h5;subst h5;exact .inr ⟨o,ho,λ z I=>B.sub _ (E.all z I)⟩
       .exact .inr ⟨o',F,λ z I=>B.sub _ (L z I)⟩
      .rw[E.own]at h1;exact .inr ⟨o',h1,h2⟩
def Zhw{ps:List (Int×Int)}:∀(n:Nat)(one:Int)(s b:GS),Qbg ps s.seen<n->Zlq ps n one s=(false,b)->Zrw ps ps one s b
 |0,_,_,_,h,_=>absurd h (Nat.not_lt_zero _)
 |n+1,one,s,b,w,h=>Ze3 (λ o s b B f=>Zhw n o s b B f) ps s b (λ _ h=>h) w h
def Qx2(x:Int)(m:List (Int×Int)):Nat:=(m.filter λ p=>decide (p.2=x)).length
def Zsv{y x:Int}:∀{m:List (Int×Int)},look y m=some x->(y,x)∈m
 |p::r,h=>by
  simp only[look]at h;split at h
  .rename_i e;subst e;cases h;exact mem_cons_self ..
  .exact mem_cons_of_mem _ (Zsv h)
def Zq6{y:Int}:∀{m:List (Int×Int)},look y m=none->y∉m.map Prod.fst
 |[],_=>S1
 |p::r,h=>by
  simp only[look]at h;split at h
  .cases h
  .rename_i e;have:=Zq6 h;simp only[map_cons,mem_cons,not_or];exact⟨e,this⟩
def Zog{y x:Int}:∀{m:List (Int×Int)},look y m=none->Qzw y x m=m++[(y,x)]
 |[],_=>rfl
 |p::r,h=>by
  simp only[look]at h;split at h
  .cases h
  .rename_i e;simp only[Qzw,if_neg e,cons_append,Zog h]
def Zou{y x o:Int}:∀{m:List (Int×Int)},look y m=some o->(Qzw y x m).map Prod.fst=m.map Prod.fst
 |p::r,h=>by
  simp only[look]at h;simp only[Qzw];split at h
  .rename_i e;rw[if_pos e];rfl
  .rename_i e;rw[if_neg e];simp[Zou h]
def Zs0{y x o z:Int}:∀{m:List (Int×Int)},look y m=some o->Qx2 z (Qzw y x m)+(if z=o then 1 else 0)=Qx2 z m+(if z=x then 1 else 0)
 |p::r,h=>by
  simp only[look]at h;simp only[Qzw];split at h
  .rename_i e;rw[if_pos e];cases h;unfold Qx2;simp only[filter_cons];by_cases h1:x=z <;> by_cases h2:p.2=z <;> simp[h1,h2,eq_comm (a:=z)] <;> omega
  .rename_i e;rw[if_neg e];have:=Zs0 (x:=x) (z:=z) h;unfold Qx2 at this ⊢;simp only[filter_cons];by_cases h2:p.2=z <;> simp only[h2,decide_true,decide_false,if_true,if_false,length_cons,Bool.false_eq_true] <;> omega
structure Zs8(ps:List (Int×Int))(one:Int)(s s':GS):Prop where
 len:s'.own.length=s.own.length+1
 cnt:∀z,Qx2 z s'.own=Qx2 z s.own+(if z=one then 1 else 0)
 keep:∀y,y∈s.seen->look y s'.own=look y s.own
 edge:(∀p,p∈s.own->(p.2,p.1)∈ps)->∀p,p∈s'.own->(p.2,p.1)∈ps
 nodup:(s.own.map Prod.fst).Nodup->(s'.own.map Prod.fst).Nodup
 sub:∀y,y∈s.seen->y∈s'.seen
def Zp5{y x:Int}{p:Int×Int}:∀{m:List (Int×Int)},p∈Qzw y x m->p∈m\/p=(y,x)
 |[],h=>by simp[Qzw]at h;exact .inr h
 |q::r,h=>by
  simp only[Qzw]at h;split at h
  .rename_i e;rcases mem_cons.1 h with h|h
   .right;rw[h,e]
   .exact .inl (mem_cons_of_mem _ h)
  .rcases mem_cons.1 h with h|h
   .left;rw[h];exact mem_cons_self ..
   .exact(Zp5 h).imp (mem_cons_of_mem _) id
def Zug(h:look y ps=some o):(Qzw y x ps).length=ps.length:=by
 have:=congrArg List.length (Zou (x:=x) h);simpa using this
def Zhv{ps:List (Int×Int)}{g:Int->GS->Bool×GS}{one:Int}{n:Nat}
  (E:∀o s f,Qbg ps s.seen<n->g o s=(false,f)->Zrw ps ps o s f)
  (N:∀o s f,Qbg ps s.seen<n->g o s=(true,f)->Zs8 ps o s f) :
  ∀(l:List (Int×Int))(s f:GS),(∀p,p∈l->p∈ps)->Qbg ps s.seen<n+1->Qdf g one l s=(true,f)->Zs8 ps one s f
 |[],s,f,_,_,h=>by simp[Qdf]at h
 |p::r,s,f,hl,T,h=>by
  simp only[Qdf]at h;have P:∀q,q∈r->q∈ps:=λ q L=>hl q (mem_cons_of_mem _ L);have hp:p∈ps:=hl p (mem_cons_self ..);split at h
  .exact Zhv E N r s f P T h
  .rename_i hc;have M:p.1=one:=Classical.byContradiction λ e=>hc (.inl e);have B:p.2∉s.seen:=λ e=>hc (.inr e);have K:(one,p.2)∈ps:=by rw[<- M];exact hp
   split at h
   .rename_i ho;simp only[Prod.mk.injEq,true_and]at h;subst h;refine⟨by simp[Zog ho],λ z=>?_,λ y hy=>?_,λ I q L=>?_,λ H=>?_,λ y hy=>mem_append_left _ hy⟩
    .simp only[Zog ho,Qx2,filter_append,length_append];by_cases h1:one=z
     .simp[h1]
     .simp[h1];exact λ e=>h1 e.symm
    .show look y (Qzw p.2 one s.own)=_;rw[Zlm,if_neg (λ e:y=p.2=>B (e▸hy))]
    .rcases Zp5 L with h|rfl
     .exact I q h
     .exact K
    .simp only[Zog ho,map_append,map_cons,map_nil];exact nodup_append.2 ⟨H,S1,λ a ha b hb e=>Zq6 ho (by simp at hb;rw[<- hb,<- e];exact ha)⟩
   .rename_i o ho;have S:Qbg ps (s.seen++[p.2])<Qbg ps s.seen:=Znj (λ y hy=>mem_append_left _ hy) hp B S1;split at h
    .rename_i s_1 hg1;simp only[Prod.mk.injEq,true_and]at h;subst h;have k:=N o _ _ (show Qbg ps (s.seen++[p.2])<n by omega) hg1;have F:look p.2 s_1.own=some o:=(k.keep p.2 S1).trans ho;refine⟨by show(Qzw p.2 one s_1.own).length=_;rw[Zug F];exact k.len,λ z=>?_,λ y hy=>?_,λ I q L=>?_,λ H=>?_,λ y hy=>k.sub y (mem_append_left _ hy)⟩
     .have h1:=Zs0 (x:=one) (z:=z) F;have h2:=k.cnt z;show Qx2 z (Qzw p.2 one s_1.own)=Qx2 z s.own+_;simp only at h2;omega
     .show look y (Qzw p.2 one s_1.own)=_;rw[Zlm,if_neg (λ e:y=p.2=>B (e▸hy))];exact k.keep y (mem_append_left _ hy)
     .rcases Zp5 L with h|rfl
      .exact k.edge I q h
      .exact K
     .show((Qzw p.2 one s_1.own).map Prod.fst).Nodup;rw[Zou F];exact k.nodup H
    .rename_i s_1 hg1;have Q:=E o _ _ (show Qbg ps (s.seen++[p.2])<n by omega) hg1;have w:∀y,y∈s.seen->y∈s_1.seen:=λ y hy=>Q.sub y (mem_append_left _ hy);have hm:Qbg ps s_1.seen<=Qbg ps s.seen:=Q3z w;have G:=Zhv E N r s_1 f P O1 h;have e:s_1.own=s.own:=Q.own;refine⟨by rw[G.len,e],λ z=>by rw[G.cnt,e],λ y hy=>by rw[G.keep y (w y hy),e],λ I=>G.edge (by rw[e];exact I),λ H=>G.nodup (by rw[e];exact H),λ y hy=>G.sub y (w y hy)⟩
def Znw{ps:List (Int×Int)}:∀(n:Nat)(one:Int)(s b:GS),Qbg ps s.seen<n->Zlq ps n one s=(true,b)->Zs8 ps one s b
 |0,_,_,_,h,_=>absurd h (Nat.not_lt_zero _)
 |n+1,one,s,b,B,h=>Zhv (λ o s b w f=>Zhw n o s b w f) (λ o s b w f=>Znw n o s b w f) ps s b (λ _ h=>h) B h
def Clo(ps:List (Int×Int))(D:List Int)(m:List (Int×Int)):Prop:=∀y,y∈D->∃o,look y m=some o/\∀z,(o,z)∈ps->z∈D
def Zls{ps:List (Int×Int)}{D:List Int}{g:Int->GS->Bool×GS}{one:Int}{n:Nat}
  (B:∀o s b,Qbg ps s.seen<n->g o s=(false,b)->Zrw ps ps o s b)
  (F:∀o s b,Qbg ps s.seen<n->g o s=(true,b)->Zs8 ps o s b)
  (w:∀o s b,Qbg ps s.seen<n->Clo ps D s.own->g o s=(true,b)->(∃z,(o,z)∈ps/\z∉D)/\∀y,y∈D->look y b.own=look y s.own) :
  ∀(l:List (Int×Int))(s b:GS),(∀p,p∈l->p∈ps)->Qbg ps s.seen<n+1->Clo ps D s.own->Qdf g one l s=(true,b)->(∃z,(one,z)∈ps/\z∉D)/\∀y,y∈D->look y b.own=look y s.own
 |[],s,b,_,_,_,h=>by simp[Qdf]at h
 |p::r,s,b,hl,U,E,h=>by
  simp only[Qdf]at h;have P:∀q,q∈r->q∈ps:=λ q V=>hl q (mem_cons_of_mem _ V);have hp:p∈ps:=hl p (mem_cons_self ..);split at h
  .exact Zls B F w r s b P U E h
  .rename_i hc;have I:p.1=one:=Classical.byContradiction λ e=>hc (.inl e);have K:p.2∉s.seen:=λ e=>hc (.inr e);have G:(one,p.2)∈ps:=by rw[<- I];exact hp
   split at h
   .rename_i ho;simp only[Prod.mk.injEq,true_and]at h;subst h
    have f:p.2∉D:=λ L=>by
     obtain⟨o,h1,_⟩:=E _ L;rw[h1]at ho;cases ho
    refine⟨⟨p.2,G,f⟩,λ y hy=>?_⟩;show look y (Qzw p.2 one s.own)=_;rw[Zlm,if_neg (λ e:y=p.2=>f (e▸hy))]
   .rename_i o ho;have T:Qbg ps (s.seen++[p.2])<Qbg ps s.seen:=Znj (λ y hy=>mem_append_left _ hy) hp K S1;split at h
    .rename_i s_1 hg1;simp only[Prod.mk.injEq,true_and]at h;subst h;obtain⟨⟨z,M,N⟩,k⟩:=w o ⟨s.seen++[p.2],s.own⟩ _ (show Qbg ps (s.seen++[p.2])<n by omega) E hg1
     have f:p.2∉D:=λ L=>by
      obtain⟨o',h1,h2⟩:=E _ L;rw[h1]at ho;cases ho;exact N (h2 z M)
     refine⟨⟨p.2,G,f⟩,λ y hy=>?_⟩;show look y (Qzw p.2 one s_1.own)=_;rw[Zlm,if_neg (λ e:y=p.2=>f (e▸hy))];exact k y hy
    .rename_i s_1 hg1;have Q:=B o _ _ (show Qbg ps (s.seen++[p.2])<n by omega) hg1;have H:∀y,y∈s.seen->y∈s_1.seen:=λ y hy=>Q.sub y (mem_append_left _ hy);have hm:Qbg ps s_1.seen<=Qbg ps s.seen:=Q3z H;have e:s_1.own=s.own:=Q.own;have S:=Zls B F w r s_1 b P O1 (by rw[e];exact E) h;rw[e]at S;exact S
def Zst{ps:List (Int×Int)}{D:List Int}:∀(n:Nat)(one:Int)(s b:GS),Qbg ps s.seen<n->Clo ps D s.own->Zlq ps n one s=(true,b)->(∃z,(one,z)∈ps/\z∉D)/\∀y,y∈D->look y b.own=look y s.own
 |0,_,_,_,h,_,_=>absurd h (Nat.not_lt_zero _)
 |n+1,one,s,b,E,B,h=>Zls (λ o s b w f=>Zhw n o s b w f) (λ o s b w f=>Znw n o s b w f) (λ o s b w B f=>Zst n o s b w B f) ps s b (λ _ h=>h) E B h
def Qvv:∀{l l':List Int},l.Nodup->(∀x,x∈l->x∈l')->l.length<=l'.length
 |[],_,_,_=>Nat.zero_le _
 |a::l,l',B,w=>by
  have ha:a∈l':=w a (mem_cons_self ..);have b:=nodup_cons.1 B
  have:=Qvv (l:=l) (l':=l'.erase a) b.2 λ x hx=>by
   have f:x≠a:=λ e=>b.1 (e▸hx);exact(mem_erase_of_ne f).2 (w x (mem_cons_of_mem _ hx))
  rw[length_erase_of_mem ha]at this;have h:0<l'.length:=length_pos_of_mem ha;simp only[length_cons];omega
def Zna(L ps:List (Int×Int)):Prop:=(∀p,p∈L->p∈ps)/\(L.map Prod.fst).Nodup/\(L.map Prod.snd).Nodup
def Zh0(X Y:List Int)(ps:List (Int×Int)):Prop:=∀p,p∈ps->p.1∈X\/p.2∈Y
def Zm9(hL:Zna L ps)(w:Zh0 m as ps):L.length<=m.length+as.length:=by
 obtain⟨h1,h2,f⟩:=hL
 have e:L.length=(L.filter λ p=>decide (p.1∈m)).length+(L.filter λ p=>!decide (p.1∈m)).length:=by
  clear h1 h2 f
  induction L with
  |nil=>rfl
  |cons a l B=>
   simp only[filter_cons];by_cases h:a.1∈m <;> simp[h] <;> omega
 have E:(L.filter λ p=>decide (p.1∈m)).length<=m.length:=by
  have b:((L.filter λ p=>decide (p.1∈m)).map Prod.fst).Nodup:=h2.sublist (filter_sublist.map _)
  have:=Qvv (l':=m) b λ x hx=>by
   obtain⟨p,hp,rfl⟩:=mem_map.1 hx;simpa using(mem_filter.1 hp).2
  simpa using this
 have F:(L.filter λ p=>!decide (p.1∈m)).length<=as.length:=by
  have b:((L.filter λ p=>!decide (p.1∈m)).map Prod.snd).Nodup:=f.sublist (filter_sublist.map _)
  have:=Qvv (l':=as) b λ x hx=>by
   obtain⟨p,hp,rfl⟩:=mem_map.1 hx;have hm:=mem_filter.1 hp;rcases w p (h1 p hm.1)with h|h
   .simp[h]at hm
   .exact h
  simpa using this
 omega
structure Zra(ps:List (Int×Int))(done:List Int)(st:Nat×List (Int×Int))(D:List Int):Prop where
 many:st.1=st.2.length
 edge:∀p,p∈st.2->(p.2,p.1)∈ps
 nodup:(st.2.map Prod.fst).Nodup
 clo:Clo ps D st.2
 on:∀a,a∈done->Qx2 a st.2=1\/(Qx2 a st.2=0/\∀z,(a,z)∈ps->z∈D)
 off:∀a,a∉done->Qx2 a st.2=0
def Zra.step(h:Zra ps l st l'){a:Int}(ha:a∉l):∃H,Zra ps (l++[a]) (Qgb ps st a) H:=by
 have F:Qbg ps ([]:List Int)<ps.length+1:=by have:=Zq8 ps [];omega
 unfold Qgb;cases E:Zlq ps (ps.length+1) a ⟨[],st.2⟩with
 |mk b s=>
 cases b with
 |true=>
  have k:=Znw _ a _ s F E;have kc:=(Zst _ a _ s F h.clo E).2;refine⟨l',?_,?_,?_,?_,?_,?_⟩
  .show st.1+1=s.own.length;rw[k.len,h.many]
  .exact k.edge h.edge
  .exact k.nodup h.nodup
  .intro y hy;obtain⟨o,h1,h2⟩:=h.clo y hy;exact⟨o,(kc y hy).trans h1,h2⟩
  .intro x hx;have e:=k.cnt x;show Qx2 x s.own=1\/(Qx2 x s.own=0/\_);rcases mem_append.1 hx with hx|hx
   .have f:x≠a:=λ e=>ha (e▸hx);rw[e,if_neg f];exact h.on x hx
   .rw[mem_singleton]at hx;subst hx;left;rw[e,if_pos rfl];have:=h.off x ha;show Qx2 x st.2+1=1;omega
  .intro x hx;have f:x≠a:=λ e=>hx (by rw[e];simp);have G:x∉l:=λ B=>hx (mem_append_left _ B);show Qx2 x s.own=0;rw[k.cnt x,if_neg f];exact h.off x G
 |false=>
  have k:=Zhw _ a _ s F E;have e:s.own=st.2:=k.own;refine⟨l'++s.seen,?_,?_,?_,?_,?_,?_⟩
  .show st.1=s.own.length;rw[e,h.many]
  .show ∀p,p∈s.own->_;rw[e];exact h.edge
  .show(s.own.map Prod.fst).Nodup;rw[e];exact h.nodup
  .intro y hy;show ∃o,look y s.own=some o/\_;rw[e];rcases mem_append.1 hy with hy|hy
   .obtain⟨o,h1,h2⟩:=h.clo y hy;exact⟨o,h1,λ z w=>mem_append_left _ (h2 z w)⟩
   .rcases k.new y hy with h1|⟨o,h1,h2⟩
    .cases h1
    .exact⟨o,h1,λ z w=>mem_append_right _ (h2 z w)⟩
  .intro x hx;show Qx2 x s.own=1\/(Qx2 x s.own=0/\_);rw[e];rcases mem_append.1 hx with hx|hx
   .exact(h.on x hx).imp id λ⟨h1,h2⟩=>⟨h1,λ z w=>mem_append_left _ (h2 z w)⟩
   .rw[mem_singleton]at hx;subst hx;exact .inr ⟨h.off x ha,λ z w=>mem_append_right _ (k.all z w)⟩
  .intro x hx;show Qx2 x s.own=0;rw[e];exact h.off x λ B=>hx (mem_append_left _ B)
def Zra.all{ps:List (Int×Int)}:∀(as done:List Int)(st:Nat×List (Int×Int))(D:List Int),Zra ps done st D->(done++as).Nodup->∃b,Zra ps (done++as) (as.foldl (Qgb ps) st) b
 |[],done,st,D,h,_=>⟨D,by simpa using h⟩
 |a::as,done,st,D,h,f=>by
  have ha:a∉done:=λ B=>(nodup_append.1 f).2.2 a B a (mem_cons_self ..) rfl;obtain⟨b,w⟩:=h.step ha;have:=Zra.all as (done++[a]) _ b w (by simpa using f);simpa using this
def Zoy{y x:Int}:∀{m:List (Int×Int)},(m.map Prod.fst).Nodup->(y,x)∈m->look y m=some x
 |p::r,b,h=>by
  simp only[map_cons,nodup_cons]at b;simp only[look];rcases mem_cons.1 h with e|h
  .subst e;rw[if_pos rfl]
  .rw[if_neg]
   .exact Zoy b.2 h
   .intro e;exact b.1 (mem_map.2 ⟨_,h,e⟩)
def Zt8(h:Qx2 x ps≠0):∃y,(y,x)∈ps:=by
 unfold Qx2 at h;cases e:ps.filter λ p=>decide (p.2=x)with
 |nil=>rw[e]at h;exact absurd rfl h
 |cons p r=>
  have:p∈ps.filter λ p=>decide (p.2=x):=by rw[e];exact mem_cons_self ..
  have hp:=mem_filter.1 this;simp only[decide_eq_true_eq]at hp;exact⟨p.1,by rw[<- hp.2];exact hp.1⟩
def Zpu:∀{m:List (Int×Int)},(∀x,Qx2 x m<=1)->(m.map Prod.snd).Nodup
 |[],_=>S1
 |p::r,h=>by
  simp only[map_cons,nodup_cons];refine⟨λ hm=>?_,Zpu λ x=>?_⟩
  .obtain⟨q,hq,e⟩:=mem_map.1 hm;have h1:=h p.2;have h2:0<(r.filter λ q=>decide (q.2=p.2)).length:=length_pos_of_mem (mem_filter.2 ⟨hq,by simp[e]⟩);unfold Qx2 at h1;rw[filter_cons,if_pos S1]at h1;simp only[length_cons]at h1;omega
  .have h1:=h x;unfold Qx2 at h1 ⊢;rw[filter_cons]at h1;split at h1
   .simp only[length_cons]at h1;omega
   .exact h1
def Q34(H:as.Nodup)(hp:∀p,p∈ps->p.1∈as) :
  (∃L,Zna L ps/\L.length=Qz2 as ps)/\∃X Y,(∀x,x∈X->x∈as)/\(∀y,y∈Y->∃x,(x,y)∈ps)/\Zh0 X Y ps/\X.length+Y.length=Qz2 as ps:=by
 have E:Zra ps [] (0,[]) []:=⟨rfl,λ p h=>(by cases h),S1,λ y h=>(by cases h),λ a h=>(by cases h),λ a _=>rfl⟩;obtain⟨D,h⟩:=Zra.all as [] _ [] E (by simpa using H);rw[nil_append]at h;have b:Qz2 as ps=(as.foldl (Qgb ps) (0,[])).2.length:=h.many;generalize as.foldl (Qgb ps) (0,[])=st at h b;obtain⟨many,m⟩:=st;simp only at b
 have B:∀x,Qx2 x m<=1:=λ x=>by
  by_cases hx:x∈as
  .rcases h.on x hx with e|e
   .have e:Qx2 x m=1:=e;omega
   .have e:Qx2 x m=0:=e.1;omega
  .have e:Qx2 x m=0:=h.off x hx;omega
 refine⟨⟨m.map λ p=>(p.2,p.1),⟨λ p F=>?_,?_,?_⟩,by rw[length_map,b]⟩,(m.filter λ p=>!decide (p.1∈D)).map Prod.snd,(m.filter λ p=>decide (p.1∈D)).map Prod.fst,λ x hx=>?_,λ y hy=>?_,λ p f=>?_,?_⟩
 .obtain⟨q,hq,rfl⟩:=mem_map.1 F;exact h.edge q hq
 .have:(m.map λ p=>(p.2,p.1)).map Prod.fst=m.map Prod.snd:=by simp[map_map,Function.comp_def]
  rw[this];exact Zpu B
 .have:(m.map λ p=>(p.2,p.1)).map Prod.snd=m.map Prod.fst:=by simp[map_map,Function.comp_def]
  rw[this];exact h.nodup
 .obtain⟨q,hq,rfl⟩:=mem_map.1 hx;exact hp _ (h.edge q (mem_filter.1 hq).1)
 .obtain⟨q,hq,rfl⟩:=mem_map.1 hy;exact⟨q.2,h.edge q (mem_filter.1 hq).1⟩
 .have key:p.2∈D->p.2∈(m.filter λ p=>decide (p.1∈D)).map Prod.fst:=λ w=>by
   obtain⟨o,h1,_⟩:=h.clo _ w;exact mem_map.2 ⟨(p.2,o),mem_filter.2 ⟨Zsv h1,by simpa using w⟩,rfl⟩
  by_cases E:Qx2 p.1 m=0
  .rcases h.on p.1 (hp p f)with e|⟨_,e⟩
   .have e:Qx2 p.1 m=1:=e;omega
   .exact .inr (key (e _ f))
  .obtain⟨y,hy⟩:=Zt8 E;by_cases w:y∈D
   .obtain⟨o,h1,h2⟩:=h.clo y w;have G:look y m=some p.1:=Zoy h.nodup hy;have h1:look y m=some o:=h1;rw[G]at h1;cases h1;exact .inr (key (h2 _ f))
   .exact .inl (mem_map.2 ⟨(y,p.1),mem_filter.2 ⟨hy,by simpa using w⟩,rfl⟩)
 .rw[b,length_map,length_map];clear h B b
  induction m with
  |nil=>rfl
  |cons a l I=>
   simp only[filter_cons];by_cases h:a.1∈D <;> simp[h] <;> omega
def Qz1(f:as.Nodup)(hp:∀p,p∈ps->p.1∈as)(h:Zna L ps):L.length<=Qz2 as ps:=by
 obtain⟨X,Y,_,_,b,e⟩:=(Q34 f hp).2;rw[<- e];exact Zm9 h b
def Znp{X Y:List Int}(b:as.Nodup)(hp:∀p,p∈ps->p.1∈as)(h:Zh0 X Y ps):Qz2 as ps<=X.length+Y.length:=by
 obtain⟨L,hL,e⟩:=(Q34 b hp).1;rw[<- e];exact Zm9 hL h
def ga(l:List Int)(i:Nat):Int:=l.getD i 0
def Zss(h:l[i]?=some x):ga l i=x:=by unfold ga;rw[getD_eq_getElem?_getD,h];rfl
def Zu9(h:i<l.length):l[i]?=some (ga l i):=by
 unfold ga;rw[getD_eq_getElem?_getD,getElem?_eq_getElem h];rfl
def sw(l:List Int)(i j:Nat):List Int:=(l.set i (ga l j)).set j (ga l i)
def Zu6(l:List Int)(i j:Nat):(sw l i j).length=l.length:=by unfold sw;simp
def Zub(h:i<l.length)(x:Int)(k:Nat):ga (l.set i x) k=if k=i then x else ga l k:=by
 unfold ga;rw[getD_eq_getElem?_getD,getD_eq_getElem?_getD,getElem?_set];by_cases e:i=k
 .subst e;rw[if_pos rfl,if_pos h,if_pos rfl];rfl
 .rw[if_neg e,if_neg λ h=>e h.symm]
def Ze2(hi:i<l.length)(b:a<l.length)(k:Nat):ga (sw l i a) k=if k=a then ga l i else if k=i then ga l a else ga l k:=by
 unfold sw;rw[Zub (by simpa using b),Zub hi]
def Zuu(hi:i<l.length)(b:a<l.length):(sw l i a).Perm l:=by
 unfold sw;have f:ga l i=l[i]:=Zss (getElem?_eq_getElem hi);have h:ga l a=l[a]:=Zss (getElem?_eq_getElem b);rw[f,h];exact set_set_perm hi b
structure Mix(a b:Nat)(l l':List Int):Prop where
 perm:l'.Perm l
 out:∀k,k<a\/b<=k->ga l' k=ga l k
 ins:∀k,a<=k->k<b->∃m,a<=m/\m<b/\ga l' k=ga l m
def Mix.refl(a b:Nat)(l:List Int):Mix a b l l:=⟨.refl _,λ _ _=>rfl,λ k h1 h2=>⟨k,h1,h2,rfl⟩⟩
def Mix.len(h:Mix a b l l'):l'.length=l.length:=h.perm.length_eq
def Mix.trans{a b:Nat}{l l' f:List Int}(h:Mix a b l l')(k:Mix a b l' f):Mix a b l f:=
 ⟨k.perm.trans h.perm,λ i hi=>(k.out i hi).trans (h.out i hi),λ i h1 h2=>by
  obtain⟨m,w,B,e⟩:=k.ins i h1 h2;obtain⟨F,h5,E,e'⟩:=h.ins m w B;exact⟨F,h5,E,e.trans e'⟩⟩
def Mix.widen(h:Mix a b l l')(h1:r<=a)(h2:b<=f):Mix r f l l':=
 ⟨h.perm,λ k E=>h.out k O1,λ k w B=>by
  by_cases e:a<=k/\k<b
  .obtain⟨m,h5,h6,e⟩:=h.ins k e.1 e.2;exact⟨m,O1,O1,e⟩
  .exact⟨k,w,B,h.out k O1⟩⟩
def Mix.sw{a b i j:Nat}{l:List Int}(hi:a<=i)(f:i<b)(w:a<=j)(h:j<b)(hb:b<=l.length):Mix a b l (sw l i j):=by
 refine⟨Zuu O1 O1,λ k B=>?_,λ k h1 h2=>?_⟩
 .rw[Ze2 O1 O1,if_neg O1,if_neg O1]
 .rw[Ze2 O1 O1];by_cases e:k=j
  .rw[if_pos e];exact⟨i,hi,f,rfl⟩
  .rw[if_neg e];by_cases e':k=i
   .rw[if_pos e'];exact⟨j,w,h,rfl⟩
   .rw[if_neg e'];exact⟨k,h1,h2,rfl⟩
def Srt(l:List Int)(a b:Nat):Prop:=∀i j,a<=i->i<j->j<b->ga l i<=ga l j
def Low(l:List Int)(a b c d:Nat):Prop:=∀i j,a<=i->i<b->c<=j->j<d->ga l i<=ga l j
def Low.mix_r(h:Low l a b r v)(hm:Mix r v l l')(E:b<=r):Low l' a b r v:=λ i j h1 h2 f w=>by
 obtain⟨m,h5,B,e⟩:=hm.ins j f w;rw[e,hm.out i O1];exact h i m h1 h2 h5 B
def Low.mix_l(h:Low l a b r v)(hm:Mix a b l l')(E:b<=r):Low l' a b r v:=λ i j h1 h2 f w=>by
 obtain⟨m,h5,B,e⟩:=hm.ins i h1 h2;rw[e,hm.out j O1];exact h m j h5 B f w
def Srt.sub(h:Srt l a b)(h1:a<=r)(h2:f<=b):Srt l r f:=λ i j B w E=>h i j O1 w O1
def Srt.keep(h:Srt l a b)(hm:Mix r v l l')(w:b<=r\/v<=a):Srt l' a b:=λ i j h1 h2 f=>by
 rw[hm.out i O1,hm.out j O1];exact h i j h1 h2 f
def Low.keep{y:Nat}(h:Low l a b r v)(hm:Mix u y l l')(h1:b<=u\/y<=a)(h2:v<=u\/y<=r):Low l' a b r v:=λ i j f w B E=>by
 rw[hm.out i O1,hm.out j O1];exact h i j f w B E
def Srt.one(l:List Int)(a b:Nat)(h:b<=a+1):Srt l a b:=λ i j h1 h2 f=>O1
def Kid(p c:Nat):Prop:=c=2*p+1\/c=2*p+2
def Hp(l:List Int)(f lo hi:Nat):Prop:=∀p c,lo<=p->Kid p c->c<hi->ga l (f+c)<=ga l (f+p)
structure Zov(l:List Int)(f lo hi r:Nat):Prop where
 hp:∀p c,lo<=p->p≠r->Kid p c->c<hi->ga l (f+c)<=ga l (f+p)
 up:∀p c,lo<=p->Kid p r->Kid r c->c<hi->ga l (f+c)<=ga l (f+p)
def Zov.start(h:Hp l f (a+1) r):Zov l f a r a:=
 ⟨λ p c h1 h2 b w=>h p c O1 b w,λ p c h1 h2 _ _=>by unfold Kid at h2;omega⟩
def Zov.step(h:Zov l f a i r)(I:a<=r)(B:Kid r v)(E:v<i)(hl:f+i<=l.length)(hm:∀c',Kid r c'->c'<i->ga l (f+c')<=ga l (f+v))(G:ga l (f+r)<ga l (f+v)):Zov (sw l (f+r) (f+v)) f a i v:=by
 have H:r<v:=by unfold Kid at B;omega
 have get:∀k,ga (sw l (f+r) (f+v)) (f+k)=if k=v then ga l (f+r)else if k=r then ga l (f+v)else ga l (f+k):=λ k=>by
  rw[Ze2 O1 O1];by_cases e:k=v
  .subst e;simp
  .by_cases e':k=r
   .subst e';simp[e]
   .rw[if_neg O1,if_neg O1,if_neg e,if_neg e']
 refine⟨λ p d h1 h2 b w=>?_,λ p d h1 h2 b w=>?_⟩
 .rw[get,get,if_neg h2];by_cases e:p=r
  .subst e;rw[if_pos rfl];by_cases e':d=v
   .rw[if_pos e'];omega
   .rw[if_neg e',if_neg (by unfold Kid at b;omega)];exact hm d b w
  .rw[if_neg e,if_neg (λ e'=>by subst e';unfold Kid at b B;omega)];by_cases e':d=r
   .subst e';rw[if_pos rfl];exact h.up p v h1 b B E
   .rw[if_neg e'];exact h.hp p d h1 e b w
 .have hp:p=r:=by unfold Kid at h2 B;omega
  subst hp;have F:v<d:=by unfold Kid at b;omega
  rw[get,get,if_neg O1,if_neg O1,if_neg O1,if_pos rfl];exact h.hp v d O1 O1 b w
def Zov.done(h:Zov l f a i r)(hm:∀c,Kid r c->c<i->ga l (f+c)<=ga l (f+r)):Hp l f a i:=λ p c h1 h2 b=>by
 by_cases e:p=r
 .subst e;exact hm c h2 b
 .exact h.hp p c h1 e h2 b
def Hp.top(h:Hp l f 0 a):∀(c:Nat),c<a->ga l (f+c)<=ga l f:=by
 intro c
 induction c using Nat.strongRecOn with
 |_ c w=>
  intro b;by_cases e:c=0
  .subst e;exact Int.le_refl _
  .have hk:Kid ((c-1) / 2) c:=by unfold Kid;omega
   have h1:=h _ c (Nat.zero_le _) hk b;have h2:=w ((c-1) / 2) O1 O1;omega
structure SB(l:List Int)(a i j:Nat):Prop where
 one:∀p q,a<=p->p<q->q<=i->p≠j->q≠j->ga l p<=ga l q
 two:∀q,j<q->q<=i->ga l j<=ga l q
def SB.start(h:Srt l a i):SB l a i i:=⟨λ p q h1 h2 b _ h5=>h p q h1 h2 O1,λ q h1 h2=>O1⟩
def SB.done(h:SB l a i r)(B:a<=r)(f:r<=i)(b:r=a\/ga l (r-1)<=ga l r):Srt l a (i+1):=λ p q h1 h2 w=>by
 by_cases e:q=r
 .subst e;rcases b with b|b
  .omega
  .by_cases e':p=q-1
   .rw[e'];exact b
   .have:=h.one p (q-1) h1 O1 O1 O1 O1;omega
 .by_cases e':p=r
  .subst e';exact h.two q h2 O1
  .exact h.one p q h1 h2 O1 e' e
def SB.step(h:SB l a i r)(E:a<r)(w:r<=i)(hl:r<l.length)(B:ga l r<ga l (r-1)):SB (sw l r (r-1)) a i (r-1):=by
 have get:∀k,ga (sw l r (r-1)) k=if k=r-1 then ga l r else if k=r then ga l (r-1)else ga l k:=Ze2 hl O1
 refine⟨λ p q h1 h2 b f h5=>?_,λ q h1 h2=>?_⟩
 .rw[get,get,if_neg f,if_neg h5];by_cases e:p=r
  .rw[if_pos e,if_neg O1];exact h.one (r-1) q O1 O1 b O1 O1
  .rw[if_neg e];by_cases e':q=r
   .rw[if_pos e'];exact h.one p (r-1) h1 O1 O1 e O1
   .rw[if_neg e'];exact h.one p q h1 h2 b e e'
 .rw[get,get,if_pos rfl,if_neg O1];by_cases e:q=r
  .rw[if_pos e];omega
  .rw[if_neg e];exact h.two q O1 h2
structure Piv(l:List Int)(u r v:Nat):Prop where
 lo:Low l u r r (r+1)
 hi:Low l r (r+1) (r+1) v
 across:Low l u r (r+1) v
def Piv.of(h1:∀k,u<=k->k<r->ga l k<=ga l r)(h2:∀k,r<k->k<v->ga l r<=ga l k):Piv l u r v:=
 ⟨λ i j b f w h=>by rw[show j=r by omega];exact h1 i b f,λ i j b f w h=>by rw[show i=r by omega];exact h2 j O1 h,
  λ i j b f w h=>Int.le_trans (h1 i b f) (h2 j O1 h)⟩
def Piv.left(h:Piv l u r v)(hm:Mix u r l m):Piv m u r v:=
 ⟨h.lo.mix_l hm (Nat.le_refl _),h.hi.keep hm (.inr (Nat.le_refl _)) (.inr (Nat.le_succ _)),h.across.mix_l hm (Nat.le_succ _)⟩
def Piv.right(h:Piv l u r v)(hm:Mix (r+1) v l m):Piv m u r v:=
 ⟨h.lo.keep hm (.inl (Nat.le_succ _)) (.inl (Nat.le_refl _)),h.hi.mix_r hm (Nat.le_refl _),h.across.mix_r hm (Nat.le_succ _)⟩
def Piv.srt(h:Piv l u r v)(h1:Srt l u r)(h2:Srt l (r+1) v):Srt l u v:=λ i j f B w=>by
 by_cases a:j<r
 .exact h1 i j f B a
 by_cases b:j=r
 .rw[b];exact h.lo i r f O1 (Nat.le_refl _) O1
 by_cases c:i<r
 .exact h.across i j f c O1 w
 by_cases d:i=r
 .rw[d];exact h.hi r j (Nat.le_refl _) O1 O1 w
 .exact h2 i j O1 B w
def Piv.lr(h:Piv l u r v)(hm:Mix u r l m)(B:Srt m u r)(b:Mix (r+1) v m l')(f:Srt l' (r+1) v):Srt l' u v:=
 ((h.left hm).right b).srt (B.keep b (.inl (Nat.le_succ _))) f
def Piv.rl(h:Piv l u r v)(hm:Mix (r+1) v l m)(B:Srt m (r+1) v)(b:Mix u r m l')(f:Srt l' u r):Srt l' u v:=
 ((h.right hm).left b).srt f (B.keep b (.inr (Nat.le_succ _)))
def Zua(B:u<=r)(G:r<=v)(f:∀k,u<=k->k<v->x<=ga l k)(h1:∀k,u<=k->k<r->ga l k<=x)(hm:Mix r v l m)(w:Srt m r v):Srt m u v:=λ i j E F h=>by
 have low:∀k,u<=k->k<v->x<=ga m k:=λ k a b=>by
  by_cases c:k<r
  .rw[hm.out k (.inl c)];exact f k a b
  .obtain⟨q,q1,q2,e⟩:=hm.ins k O1 b;rw[e];exact f q O1 q2
 by_cases c:i<r
 .have:ga m i<=x:=by rw[hm.out i (.inl c)];exact h1 i E c
  exact Int.le_trans this (low j O1 h)
 .exact w i j O1 F h
def Bk.nexts(b:Bk)(o:List Nat):List Nat:=(range b.cs.length).filter λ i=>b.can o i
