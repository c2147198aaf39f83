/- Lemmas. No conditions. -/
import Derived.Test.YtcakpkianonbkaaGreatDoorB44
import Derived.Test.YtcakpkianonbkaaGreatDoorC01
set_option linter.all false
set_option maxRecDepth 100000
open List
namespace Go.TM
variable{T:Type}{P:Program}{S:Sys P T}
structure Hlr(U:Qa T)(b:Nat)(e:TypeId)(c:Array Value)(U':Qa T):Prop where
 imm:∀x o,U.I x=some o->U'.I x=some o
 own:U'.M=.obj b (.cells c e (0,0))::U.M
 tok:U'.tok=U.tok
 new:U.I b=none
def Hlr.le{U U' U'':Qa T}{b:Nat}{e:TypeId}{c:Array Value}(h:Hlr U b e c U')(k:U'.le U''):Hlr U b e c U'':=⟨λ x o i=>k.imm x o (h.imm x o i),k.own.trans h.own,k.tok.trans h.tok,h.new⟩
def Hlr.frz2{U U':Qa T}{b:Nat}{e:TypeId}{c:Array Value}(h:Hlr U b e c U'):U.frz.lg U'.frz:=⟨h.imm,⟨[],rfl⟩,h.tok⟩
def Hlr.frz1{U U':Qa T}{b:Nat}{e:TypeId}{c:Array Value}(h:Hlr U b e c U'):U.frz.lg U':=⟨h.imm,⟨_,(append_nil _).symm⟩,h.tok⟩
def Hlr.made{U U':Qa T}{b:Nat}{e:TypeId}{c:Array Value}(h:U.le U')(hf:U'.free b):Hlr U b e c (U'.put b (.cells c e)):=by
 refine⟨h.imm,by show _::U'.M=_;rw[h.own],h.tok,?_⟩;cases hb:U.I b with
 |none=>rfl
 |some o=>have:=h.imm b o hb;rw[hf.1]at this;cases this
def Hlr.write{U U':Qa T}{b:Nat}{e:TypeId}{c:Array Value}{vs:List Value}{Q:Qa T->Prop}(h:Hlr U b e c U')(hsz:c.size=vs.length)(hs:∀v∈vs,v.single=true)(hQ:∀U1,U.le U1->Zd U1 b vs.toArray->Q U1):StV ⟨b,0,none⟩ vs 0 (λ U'=>∃U1,Qw U' U1/\Q U1) U':=by
 refine Qrk [] vs 0 c U' h.own hs (by omega) ?_;rw[Qi2 hsz];refine⟨_,Wf (b:=b) (M':=U.M) (Perm.refl _),hQ _ ⟨λ x o i=>?_,rfl,h.tok⟩ Zd.new⟩;show Qg0 U'.I b _ x=_;unfold Qg0;rw[if_neg]
 .exact h.imm x o i
 .rintro rfl;rw[h.new]at i;cases i
end Go.TM
namespace Go.TM
variable{T:Type}{P:Program}{S:Sys P T}{U U' U'':Qa T}
def Zj0{fn:FuncId}{ro:Option Nat}{N:Nat}{mu dets:List Nat}{c:Code}{l:List St}{Q:Ex->Act->Qa T->Prop}{a:Act}{f:Fm}{ds:List Deferred}(hf:FR N a f ds)(hm:P.follows .mixedOrders=true)(hc:clean P mu N dets c=.reg l)
  (h:(∃w,U.ok w)->∃U1,Qw U U1/\OpX S ro l (λ f ds U=>∀a',FR N a' f ds->Q .normal a' U) f ds U1):Zu S fn ro c Q a U:=
 Zul λ hw=>by
  obtain⟨U1,hs,h⟩:=h hw;refine Znk hs (Zu.mono (Qc9 (mu:=mu) (dets:=dets) (n:=λ f ds U=>∀a',FR N a' f ds->Q .normal a' U) (x:=λ _ _ _ _=>False) (r:=λ _ _ _=>False) hm c hf (by rw[hc];exact h)) ?_);rintro e a' U'⟨f',ds',hf',hp⟩;cases e with
  |normal=>exact hp a' hf'
  |exit i=>exact hp.elim
  |ret=>exact hp.elim
def Qd5{m:Nat}:∀{L:List (List Value)},(∀r∈L,r.length=m)->L.flatten.length=L.length*m
 |[],_=>by simp
 |r::L,h=>by
  rw[flatten_cons,length_append,h r (mem_cons_self ..),Qd5 λ x hx=>h x (mem_cons_of_mem _ hx),length_cons,Nat.succ_mul];omega
def Qxi{m:Nat}:∀{L:List (List Value)},(∀r∈L,r.length=m)->∀{j k:Nat}{r:List Value},L[j]?=some r->k<m->L.flatten[j*m+k]?=r[k]?
 |[],_,j,k,r,hj,_=>by simp at hj
 |a::L,h,0,k,r,hj,hk=>by
  simp at hj;subst hj;rw[flatten_cons,Nat.zero_mul,Nat.zero_add,getElem?_append_left (by rw[h a (mem_cons_self ..)];exact hk)]
 |a::L,h,j+1,k,r,hj,hk=>by
  simp at hj;have ha:=h a (mem_cons_self ..);rw[flatten_cons,getElem?_append_right (by rw[ha,Nat.succ_mul];omega),ha,show(j+1)*m+k-m=j*m+k by rw[Nat.succ_mul];omega];exact Qxi (λ x hx=>h x (mem_cons_of_mem _ hx)) hj hk
def Qav(U:Qa T)(rows:List (List Value))(cs:List Cs):Prop:=rows.length=cs.length/\∀(i:Nat)(c:Cs),cs[i]?=some c->∃r,rows[i]?=some r/\Q1z U.frz c r
def Qav.lg{rows:List (List Value)}{cs:List Cs}(h:Qav U rows cs)(k:U.frz.lg U'.frz):Qav U' rows cs:=⟨h.1,λ i c hc=>let ⟨r,e,hr⟩:=h.2 i c hc;⟨r,e,hr.lg k⟩⟩
def Qav.nil:Qav U [] []:=⟨rfl,λ i c h=>by simp at h⟩
def Qav.snoc{rows:List (List Value)}{cs:List Cs}{c:Cs}{r:List Value}(h:Qav U rows cs)(hr:Q1z U.frz c r):Qav U (rows++[r]) (cs++[c]):=by
 refine⟨by simp[h.1],λ i x hx=>?_⟩;rw[getElem?_append]at hx;split at hx
 .rename_i hlt;obtain⟨r',e,hr'⟩:=h.2 i x hx;exact⟨r',by rw[getElem?_append_left (by rw[h.1];exact hlt)];exact e,hr'⟩
 .rename_i hge;have:i=cs.length:=by have:=(List.getElem?_eq_some_iff.1 hx).1;simp at this;omega
  subst this;simp at hx;subst hx;exact⟨r,by rw[<- h.1];simp,hr⟩
def Qav.row{rows:List (List Value)}{cs:List Cs}(h:Qav U rows cs):∀r∈rows,r.length=4:=by
 intro r hr;obtain⟨i,hi⟩:=getElem?_of_mem hr;have hlt:i<cs.length:=by rw[<- h.1];exact(List.getElem?_eq_some_iff.1 hi).1
 obtain⟨r',e,ga,gl,gc,aa,al,ac,rfl,-⟩:=h.2 i _ (getElem?_eq_getElem hlt);rw[hi]at e;cases e;rfl
def Qav.rows{rows:List (List Value)}{cs:List Cs}{a:Option Addr}(h:Qav U rows cs)(hs:Src U.frz a rows.flatten)(hsp:∀ad,a=some ad->ad.spot=none):Qx U.frz a cs.length 4 cs (Q1z U.frz):=by
 refine⟨rfl,λ i c hc=>?_⟩;obtain⟨r,e,hr⟩:=h.2 i c hc;have hl:=h.row r (mem_of_getElem? e);rcases hs with⟨_,hn⟩|⟨ad,ha,hrd⟩
 .have h1:=Qd5 h.row;rw[hn]at h1;have h2:=(List.getElem?_eq_some_iff.1 e).1;simp at h1;omega
 .have hs0:=hsp ad ha;refine⟨ad,r,ha,hs0,hr,hl,λ j v hv=>?_⟩;have hj:j<4:=by rw[<- hl];exact(List.getElem?_eq_some_iff.1 hv).1
  have h5:=hrd (i*4+j) v (by rw[Qxi h.row e hj];exact hv);obtain⟨bb,oo,ss⟩:=ad;cases hs0;rw[Qo]at h5;rw[Qo,Qo,Nat.add_assoc];exact h5
def HqV(U1:Qa T)(R:Qa T->Prop)(b:Nat)(e:TypeId)(z:Array Value)(U':Qa T):Prop:=∃Ud,U1.le Ud/\R Ud/\Hlr Ud b e z U'
def HqV.le{U1:Qa T}{R:Qa T->Prop}{b:Nat}{e:TypeId}{z:Array Value}(h:HqV U1 R b e z U')(k:U'.le U''):HqV U1 R b e z U'':=let ⟨d,h1,h2,h3⟩:=h;⟨d,h1,h2,h3.le k⟩
def HqV.frz{U1:Qa T}{R:Qa T->Prop}{b:Nat}{e:TypeId}{z:Array Value}(h:HqV U1 R b e z U'):U1.frz.lg U':=let ⟨_,h1,_,h3⟩:=h;h1.lg.frz2.trans h3.frz1
def HqV.of{U1:Qa T}{R:Qa T->Prop}{b:Nat}{e:TypeId}{z:Array Value}(h:Hlr U1 b e z U')(hle:U'.le U'')(hs:Sep U'')(hq:R { U'' with M:=U1.M }):HqV U1 R b e z U'':=by
 have h2:=h.le hle;refine⟨{ U'' with M:=U1.M },⟨h2.imm,rfl,h2.tok⟩,hq,⟨λ _ _ h=>h,h2.own,rfl,?_⟩⟩;exact hs (.obj b (.cells z e (0,0))) (by rw[h2.own];exact mem_cons_self ..)
end Go.TM
namespace Go.Proofs
open Go.TM
variable{T:Type}{S:TM.Sys Tryz.prog T}{U:Qa T}
attribute [local irreducible] Qb Zh We
def Qo9(a:Option Addr)(len cap:Nat)(p:List Nat)(hp:Qx U a len 1 p λ n vs=>vs=[.int .u16 (n:Int)]/\n<65536)(k:Nat):Qb S 8 #[.slice a len cap,.int .i64 k] (λ v U'=>v=.int .i64 (p.getD k 0:Nat)/\U'=U) U:=by
 refine Qb.of (args:=[_,_]) Zua Qd (by simp) ?_;have hpl:=hp.1
 repeat refine⟨rfl,?_⟩
 conv=>whnf
 apply Qe<;>intro hc
 .have hlt:k<len:=by simpa using hc
  obtain⟨ad,n,vs,hx,hea,hsp,⟨rfl,hn⟩,-,hrd⟩:=hp.at hlt;have e:p.getD k 0=n:=by simp[getD_eq_getElem?_getD,hx]
  rw[e];refine⟨ad,k,⟨hea,rfl,hlt⟩,_,hrd 0 _ rfl,?_⟩
  repeat refine⟨rfl,?_⟩
  conv=>whnf
  rw[wrap64 (by omega)];exact⟨rfl,rfl⟩
 .have hge:len<=k:=by simp at hc;omega
  have e:p.getD k 0=0:=by simp[getD_eq_getElem?_getD,getElem?_eq_none (show p.length<=k by omega)]
  rw[e]
  repeat refine⟨rfl,?_⟩
  conv=>whnf
end Go.Proofs
