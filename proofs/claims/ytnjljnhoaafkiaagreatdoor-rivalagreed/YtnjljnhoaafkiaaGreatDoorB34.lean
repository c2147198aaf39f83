/- Lemmas. No conditions. -/
import Derived.Test.YtnjljnhoaafkiaaGreatDoorB15
import Derived.Test.YtnjljnhoaafkiaaGreatDoorB31
set_option linter.all false
set_option maxRecDepth 100000
namespace Go.TM
open Go.Proofs
variable{lo b bb:Nat}{m s v:Bool}{U:Qa Tk}{Stop:QI Tk}{g:Gr}{n:Int}{c:Frame}{cs:List Frame}{D:Spec}{sp:Bool->Bool->Spec}{Q:Value->Qa Tk->Prop}{M₁ M₂:List Qw}
abbrev Q6:=Za Tryz.prog 176 6
def MV:Extern.find Tryz.f169=some Extern.OsHooks.nano:=K1
def MJ:Extern.find Tryz.f166=some Extern.Sync.canSpin:=K1
def Xm(b bb:Nat)(D:TM.Spec)(sp:Bool->Bool->TM.Spec)(s:Bool)(K:Qa Tk->Prop)(U:Qa Tk):Prop:=
 ∀v M lo,sp (if s then v else false) (if s then false else v) M->K { U with M:=U.M++M,tok:=⟨0,.wrk bb D,some (.lok ⟨b,169,sp⟩ s (.own v) lo)⟩ }
def J.nano'(h:WX Tryz.prog g 169 #[])(k:∀n:Int,J Q6 Stop m (aft g (.int .i64 n)) U):J Q6 Stop m g U:=
 J.nano h Tryz.func169 K1 K1 K1 MV K1 k
def J.spin'(h:WX Tryz.prog g 166 #[.int .i64 n])(b:n<4)(k:∀r:Bool,J Q6 Stop m (aft g (.bool r)) U):J Q6 Stop m g U:=
 J.spin h Tryz.func166 K1 K1 K1 MJ b k
def Ot(x:Nat->Value)(k:Xm b bb D sp s (J Q6 Stop m (Rf (c.finish (.tuple #[])) cs)) U):J Q6 Stop m (HK b m c cs x) (U.lk 1 bb D ⟨b,169,sp⟩ s .got lo):=by
 refine J.mena (x:=⟨b,169,sp⟩) rfl (jQ b m c cs x) ?_;show J _ Stop m (T5 b m c cs x) _;refine J.mcalm (x:=⟨b,169,sp⟩) rfl (NQ b m c cs x) Q3 ?_;show J _ Stop m (Kg b m c cs x) _;refine J.macq (x:=⟨b,169,sp⟩) rfl (NR b m c cs x) λ v M hx=>?_;show J _ Stop m (T6 b m c cs x) _;refine J.mcalm (x:=⟨b,169,sp⟩) rfl (NS b m c cs x) Qe ?_;rw[NT];exact k v M lo hx
def Kq(x:Nat->Value)(ws it:Value)(k:Xm b bb D sp s (J Q6 Stop m (Rf (c.finish (.tuple #[])) cs)) U) :
  J Q6 Stop m (Jb b m c cs ws (.bool false) (.bool false) it (Zb 0) x) (U.lk 1 bb D ⟨b,169,sp⟩ s .idle 2):=by
 refine J.mcalm (x:=⟨b,169,sp⟩) rfl (xT b m c cs x ws it) Qe ?_;show J _ Stop m (PN b m c cs x ws it) _;refine J.midle (x:=⟨b,169,sp⟩) rfl (Qn (SE.of_info (g:=PN b m c cs x ws it) (FL b m c cs x ws it))) λ cc h1 h2=>?_;obtain rfl:cc=2:=O1
 refine .inr (.inl ⟨D1,_,Jp,FL b m c cs x ws it,?_⟩);show J _ Stop m (PO b m c cs x ws it) _;refine J.mcalm (x:=⟨b,169,sp⟩) rfl (wn b m c cs x ws it) Qe ?_;rw[wq];exact Ot _ k
def I8(x:Nat->Value)(k:Xm b bb D sp s (J Q6 Stop m (Rf (c.finish (.tuple #[])) cs)) U):J Q6 Stop m (Gm b m c cs x) (U.lk 1 bb D ⟨b,169,sp⟩ s .wai lo):=by
 refine J.nano' (wh b m c cs x) λ n=>?_;refine J.mcalm (x:=⟨b,169,sp⟩) rfl (gg b m c cs x n) Qe ?_;show J _ Stop m (Ho b m c cs x n) _;refine J.mblk (x:=⟨b,169,sp⟩) rfl (gj b m c cs x n) (gi b m c cs x n) (λ st=>⟨_,Zs,gf b m c cs x n st⟩) Q3 (gh b m c cs x n) ?_;show J _ Stop m (YG b m c cs x n) (U.lk 1 bb D ⟨b,169,sp⟩ s .wok 2);refine J.mcalm (x:=⟨b,169,sp⟩) rfl (gk b m c cs x n) Qe ?_;show J _ Stop m (Yf b m c cs x n) _;refine J.nano' (jH b m c cs x n) λ n'=>?_;refine J.mcalm (x:=⟨b,169,sp⟩) rfl (jI b m c cs x n n') Qe ?_;show J _ Stop m (PK b m c cs x n n') _;refine J.mwok (x:=⟨b,169,sp⟩) rfl (Qn (SE.of_info (g:=PK b m c cs x n n') (Ib b m c cs x n n'))) (.inl ⟨_,_,Zs,Ib b m c cs x n n',.inl rfl,?_⟩);show J _ Stop m (Gn b m c cs x n n') (U.lk 1 bb D ⟨b,169,sp⟩ s .wok 2);refine J.mcalm (x:=⟨b,169,sp⟩) rfl (jJ b m c cs x n n') Qe ?_;rw[jK];generalize Lw _=f;generalize ZM _ 2=ws;generalize(ZM _:Nat->Value)=y;cases f with
 |true=>
  refine J.mcalm (x:=⟨b,169,sp⟩) rfl (wO b m c cs y ws) Qe ?_;show J _ Stop m (PP b m c cs y ws) _;refine J.mwok (x:=⟨b,169,sp⟩) rfl (Qn (SE.of_info (g:=PP b m c cs y ws) (FK b m c cs y ws))) (.inr ⟨_,Jp,FK b m c cs y ws,?_⟩);show J _ Stop m (Kt b m c cs y ws) (U.lk 1 bb D ⟨b,169,sp⟩ s .got 2);refine J.mcalm (x:=⟨b,169,sp⟩) rfl (RW b m c cs y ws) Qe ?_;rw[RX];exact Ot _ k
 |false=>
  refine J.mcalm (x:=⟨b,169,sp⟩) rfl (wN b m c cs y ws) Qe ?_;show J _ Stop m (PM b m c cs y ws) _;refine J.mwok (x:=⟨b,169,sp⟩) rfl (Qn (SE.of_info (g:=PM b m c cs y ws) (FI b m c cs y ws))) (.inr ⟨_,Jp,FI b m c cs y ws,?_⟩);show J _ Stop m (Ks b m c cs y ws) (U.lk 1 bb D ⟨b,169,sp⟩ s .got 2);refine J.mcalm (x:=⟨b,169,sp⟩) rfl (RT b m c cs y ws) Qe ?_;rw[RU];exact Ot _ k
def jG(x:Nat->Value)(i:Int)(k:Xm b bb D sp s (J Q6 Stop m (Rf (c.finish (.tuple #[])) cs)) U):J Q6 Stop m (Hi b m c cs x i) (U.lk 1 bb D ⟨b,169,sp⟩ s .idle 1):=by
 refine J.midle (x:=⟨b,169,sp⟩) rfl (Qn (SE.of_info (g:=Hi b m c cs x i) (I9 b m c cs x i))) λ cc h1 h2=>?_;obtain rfl|rfl:cc=1\/cc=2:=O1
 .refine .inr (.inr ⟨rfl,_,Jp,I9 b m c cs x i,?_⟩);show J _ Stop m (Kb b m c cs x i) (U.lk 1 bb D ⟨b,169,sp⟩ s .wai 1);refine J.mcalm (x:=⟨b,169,sp⟩) rfl (NF b m c cs x i) Qe ?_;rw[NG];exact I8 _ k
 .refine .inl ⟨_,_,Zc,wi b m c cs x i,.inr rfl,?_⟩;show J _ Stop m (Tz b m c cs x i) (U.lk 1 bb D ⟨b,169,sp⟩ s .idle 2);refine J.mcalm (x:=⟨b,169,sp⟩) rfl (NC b m c cs x i) Qe ?_;show J _ Stop m (Pt b m c cs x i) _;refine J.midle (x:=⟨b,169,sp⟩) rfl (Qn (SE.of_info (g:=Pt b m c cs x i) (EY b m c cs x i))) λ cc h1 h2=>?_;obtain rfl:cc=2:=O1
  refine .inl ⟨_,_,Zs,EY b m c cs x i,.inl rfl,?_⟩;show J _ Stop m (Pu b m c cs x i) (U.lk 1 bb D ⟨b,169,sp⟩ s .idle 2);refine J.mcalm (x:=⟨b,169,sp⟩) rfl (ND b m c cs x i) Qe ?_;rw[NE];exact Kq _ _ _ k
def wg(x:Nat->Value)(k:Xm b bb D sp s (J Q6 Stop m (Rf (c.finish (.tuple #[])) cs)) U):J Q6 Stop m (Hh b m c cs x) (U.lk 1 bb D ⟨b,169,sp⟩ s .idle 1):=by
 refine J.midle (x:=⟨b,169,sp⟩) rfl (Qn (SE.of_info (g:=Hh b m c cs x) (I7 b m c cs x))) λ cc h1 h2=>?_;obtain rfl|rfl:cc=1\/cc=2:=O1
 .refine .inr (.inr ⟨rfl,_,Jp,I7 b m c cs x,?_⟩);show J _ Stop m (PG b m c cs x) (U.lk 1 bb D ⟨b,169,sp⟩ s .wai 1);refine J.mcalm (x:=⟨b,169,sp⟩) rfl (NA b m c cs x) Qe ?_;rw[NB];exact I8 _ k
 .refine .inl ⟨_,_,Zc,j_ b m c cs x,.inr rfl,?_⟩;show J _ Stop m (Ty b m c cs x) (U.lk 1 bb D ⟨b,169,sp⟩ s .idle 2);refine J.mcalm (x:=⟨b,169,sp⟩) rfl (R6 b m c cs x) Qe ?_;show J _ Stop m (PE b m c cs x) _;refine J.midle (x:=⟨b,169,sp⟩) rfl (Qn (SE.of_info (g:=PE b m c cs x) (EX b m c cs x))) λ cc h1 h2=>?_;obtain rfl:cc=2:=O1
  refine .inl ⟨_,_,Zs,EX b m c cs x,.inl rfl,?_⟩;show J _ Stop m (PF b m c cs x) (U.lk 1 bb D ⟨b,169,sp⟩ s .idle 2);refine J.mcalm (x:=⟨b,169,sp⟩) rfl (Ny b m c cs x) Qe ?_;rw[Nz];exact Kq _ _ _ k
def jZ(x:Nat->Value)(k:Xm b bb D sp s (J Q6 Stop m (Rf (c.finish (.tuple #[])) cs)) U):J Q6 Stop m (Jb b m c cs (.int .i64 0) (.bool false) (.bool false) (.int .i64 4) (Zb 1) x) (U.lk 1 bb D ⟨b,169,sp⟩ s .idle 1):=by
 refine J.mcalm (x:=⟨b,169,sp⟩) rfl (we b m c cs x) Qe ?_;exact wg x k
def Vx(x:Nat->Value)(i f:Int)(w:i<4)(hi:∀v,v=0\/v=1->True)(h1:Xk (ZM (Qj (Tryz.prog) 169 m 4 (Gi b m c cs x i)) 5)=f)
  (B:∀y,J Q6 Stop m (Jb b m c cs (.int .i64 0) (.bool false) (.bool false) (.int .i64 f) (Zb 1) y) (U.lk 1 bb D ⟨b,169,sp⟩ s .idle 1))
  (k:Xm b bb D sp s (J Q6 Stop m (Rf (c.finish (.tuple #[])) cs)) U):J Q6 Stop m (Jb b m c cs (.int .i64 0) (.bool false) (.bool false) (.int .i64 i) (Zb 1) x) (U.lk 1 bb D ⟨b,169,sp⟩ s .idle 1):=by
 refine J.mcalm (x:=⟨b,169,sp⟩) rfl (ge b m c cs x i) Qe ?_;show J _ Stop m (Gs b m c cs x i) _;refine J.spin' (h_ b m c cs x i) w λ r=>?_;cases r with
 |false=>
  refine J.mcalm (x:=⟨b,169,sp⟩) rfl (wj b m c cs x i) Qe ?_;exact jG x i k
 |true=>
  refine J.mcalm (x:=⟨b,169,sp⟩) rfl (wz b m c cs x i) Qe ?_;show J _ Stop m (Hk b m c cs x i) _;refine J.midle (x:=⟨b,169,sp⟩) rfl (Qn (SE.of_info (g:=Hk b m c cs x i) (Ih b m c cs x i))) λ cc h h2=>?_;obtain rfl|rfl:cc=1\/cc=2:=O1
  .refine .inl ⟨_,_,Zs,Ih b m c cs x i,.inl rfl,?_⟩;show J _ Stop m (Gi b m c cs x i) (U.lk 1 bb D ⟨b,169,sp⟩ s .idle 1);refine J.mcalm (x:=⟨b,169,sp⟩) rfl (Rv b m c cs x i) Qe ?_;rw[Rw,h1];exact B _
  .refine .inl ⟨_,_,Zs,jP b m c cs x i,.inl rfl,?_⟩;show J _ Stop m (Pw b m c cs x i) (U.lk 1 bb D ⟨b,169,sp⟩ s .idle 2);refine J.mcalm (x:=⟨b,169,sp⟩) rfl (Rs b m c cs x i) Qe ?_;rw[Ru];exact Kq _ _ _ k
def xW(x:Nat->Value)(k:Xm b bb D sp s (J Q6 Stop m (Rf (c.finish (.tuple #[])) cs)) U):J Q6 Stop m (Jb b m c cs (.int .i64 0) (.bool false) (.bool false) (.int .i64 0) (Zb 1) x) (U.lk 1 bb D ⟨b,169,sp⟩ s .idle 1):=
 Vx x 0 1 D1 (λ _ _=>trivial) K1 (λ y=>Vx y 1 2 D1 (λ _ _=>trivial) K1 (λ y=>Vx y 2 3 D1 (λ _ _=>trivial) K1 (λ y=>Vx y 3 4 D1 (λ _ _=>trivial) K1 (λ y=>jZ y k) k) k) k) k
def MH(k:Xm b bb D sp s (J Q6 Stop m (Rf (c.finish (.tuple #[])) cs)) U):J Q6 Stop m (Rf (Frame.enter Tryz.prog 151 #[.pb b] .normal) (c::cs)) (U.lk 1 bb D ⟨b,169,sp⟩ s .idle 1):=by
 show J _ Stop m (SL b m c cs) _;refine J.mcalm (x:=⟨b,169,sp⟩) rfl (jL b m c cs) Qe ?_;show J _ Stop m (Hj b m c cs) _;refine J.midle (x:=⟨b,169,sp⟩) rfl (Qn (SE.of_info (g:=Hj b m c cs) (Ic b m c cs))) λ cc h1 h2=>?_;obtain rfl|rfl:cc=1\/cc=2:=O1
 .refine .inl ⟨_,_,Zs,Ic b m c cs,.inl rfl,?_⟩;show J _ Stop m (Pn b m c cs) (U.lk 1 bb D ⟨b,169,sp⟩ s .idle 1);refine J.mcalm (x:=⟨b,169,sp⟩) rfl (Rm b m c cs) Qe ?_;rw[Rn];exact xW _ k
 .refine .inl ⟨_,_,Zs,jM b m c cs,.inl rfl,?_⟩;show J _ Stop m (K0 b m c cs) (U.lk 1 bb D ⟨b,169,sp⟩ s .idle 2);refine J.mcalm (x:=⟨b,169,sp⟩) rfl (Rk b m c cs) Qe ?_;rw[Rl];exact Kq _ _ _ k
def R5(ht:U.tok=⟨0,.wrk bb D,some (.lok ⟨b,169,sp⟩ s .idle lo)⟩)
  (h:Xm b bb D sp s (Q (.tuple #[])) U):Qb Q6 92 #[.pb b] Q U:=by
 intro Stop m c cs k;show J _ Stop m (Tt b m c cs) U;refine J.mcalm ht (NW b m c cs) Qe ?_;show J _ Stop m (K8 b m c cs) U;refine J.mdis ht (NX b m c cs) ?_;show J _ Stop m (Tu b m c cs) (U.lk 1 bb D ⟨b,169,sp⟩ s .idle lo);refine J.mcalm (x:=⟨b,169,sp⟩) rfl (NY b m c cs) Qe ?_;show J _ Stop m (H9 b m c cs) _
 have f:∀cc,J Q6 Stop m (Tv b m c cs) (U.lk 1 bb D ⟨b,169,sp⟩ s .got cc):=by
  intro cc;refine J.mcalm (x:=⟨b,169,sp⟩) rfl (N_ b m c cs) Qe ?_;show J _ Stop m (K9 b m c cs) _;refine J.mena (x:=⟨b,169,sp⟩) rfl (R0 b m c cs) ?_;show J _ Stop m (Tw b m c cs) _;refine J.mcalm (x:=⟨b,169,sp⟩) rfl (R1 b m c cs) Q3 ?_;show J _ Stop m (Ka b m c cs) _;refine J.macq (x:=⟨b,169,sp⟩) rfl (R2 b m c cs) λ v M hx=>?_;show J _ Stop m (Tx b m c cs) _;refine J.mcalm (x:=⟨b,169,sp⟩) rfl (R3 b m c cs) Qe ?_;rw[R4];exact k _ _ (h v M cc hx)
 refine J.midle (x:=⟨b,169,sp⟩) rfl (Qn (SE.of_info (g:=H9 b m c cs) (Oc b m c cs))) λ cc h1 h2=>?_;obtain rfl|rfl|rfl:cc=0\/cc=1\/cc=2:=O1
 .exact .inr (.inl ⟨D1,_,Jp,Oc b m c cs,f 0⟩)
 .refine .inl ⟨_,_,Zc,NZ b m c cs,.inr rfl,?_⟩;show J _ Stop m (Pv b m c cs) (U.lk 1 bb D ⟨b,169,sp⟩ s .idle 1);refine J.mcalm (x:=⟨b,169,sp⟩) rfl (Ro b m c cs) Qe ?_;rw[Rp];refine MH λ v M lo' hx=>?_;refine J.mcalm (x:=⟨b,169,sp⟩) rfl (Rq b m c cs) Qe ?_;rw[Rr];exact k _ _ (h v M lo' hx)
 .exact .inr (.inl ⟨D1,_,Jp,Oc b m c cs,f 2⟩)
def zQ{Q:Qa Tk->Prop}(ht:U.tok=⟨0,.wrk bb D,some (.lok ⟨b,169,sp⟩ s (.own v) lo)⟩)(B:U.M=M₁++M₂)
  (w:sp (if s then v else true) (if s then true else v) M₁) (h:Q { U with M:=M₂,tok:=⟨0,.wrk bb D,some (.lok ⟨b,169,sp⟩ s .fin lo)⟩ }):XB Q6 93 #[.pb b] Q U:=by
 intro Stop m c cs f k;obtain⟨fn,T,todo,ds,mode,kd,ro⟩:=c;simp only at f;subst f;show J _ Stop m (SM b m fn T todo ds kd ro cs) U;refine J.mcalm ht (wB b m fn T todo ds kd ro cs) Qe ?_;show J _ Stop m (He b m fn T todo ds kd ro cs) U
 have next:∀a,J Q6 Stop m (PL b m fn T todo ds kd ro cs (Zb a)) U:=by
  intro a;refine J.mcalm ht (wM b m fn T todo ds kd ro cs (Zb a)) Q3 ?_;show J _ Stop m (Y5 b m fn T todo ds kd ro cs (Zb a)) U;refine J.mrel ht B w (wE b m fn T todo ds kd ro cs (Zb a)) ?_;show J _ Stop m (SN b m fn T todo ds kd ro cs (Zb a)) _;refine J.mcalm (x:=⟨b,169,sp⟩) rfl (wF b m fn T todo ds kd ro cs (Zb a)) Qe ?_;show J _ Stop m (Y6 b m fn T todo ds kd ro cs (Zb a)) _;refine J.mdis (x:=⟨b,169,sp⟩) rfl (wG b m fn T todo ds kd ro cs (Zb a)) ?_;show J _ Stop m (SO b m fn T todo ds kd ro cs (Zb a)) (Qa.lk { U with M:=M₂ } 1 bb D ⟨b,169,sp⟩ s .rls lo);refine J.mcalm (x:=⟨b,169,sp⟩) rfl (wH b m fn T todo ds kd ro cs (Zb a)) Qe ?_;show J _ Stop m (Hf b m fn T todo ds kd ro cs (Zb a)) _;refine J.mrls (x:=⟨b,169,sp⟩) rfl (Qn (SE.of_info (g:=Hf b m fn T todo ds kd ro cs (Zb a)) (FH b m fn T todo ds kd ro cs (Zb a)))) ⟨_,Q3,FH b m fn T todo ds kd ro cs (Zb a),?_⟩ ⟨_,Q3,wJ b m fn T todo ds kd ro cs (Zb a),?_⟩
  .show J _ Stop m (SP b m fn T todo ds kd ro cs (Zb a)) (Qa.lk { U with M:=M₂ } 1 bb D ⟨b,169,sp⟩ s .fin lo);refine J.mcalm (x:=⟨b,169,sp⟩) rfl (wK b m fn T todo ds kd ro cs (Zb a)) Qe ?_;show J _ Stop m (Kc b m fn T todo ds kd ro cs (Zb a)) _;refine J.mena (x:=⟨b,169,sp⟩) rfl (R9 b m fn T todo ds kd ro cs (Zb a)) ?_;show J _ Stop m (TC b m fn T todo ds kd ro cs (Zb a)) _;refine J.mcalm (x:=⟨b,169,sp⟩) rfl (Ra b m fn T todo ds kd ro cs (Zb a)) Qe ?_;rw[Rb];exact k _ h
  .show J _ Stop m (SQ b m fn T todo ds kd ro cs (Zb a)) (Qa.lk { U with M:=M₂ } 1 bb D ⟨b,169,sp⟩ s .unl lo);refine J.mcalm (x:=⟨b,169,sp⟩) rfl (wL b m fn T todo ds kd ro cs (Zb a)) Qe ?_;show J _ Stop m (Py b m fn T todo ds kd ro cs (Zb a)) _;refine J.munl (x:=⟨b,169,sp⟩) rfl (Qn (SE.of_info (g:=Py b m fn T todo ds kd ro cs (Zb a)) (E_ b m fn T todo ds kd ro cs (Zb a)))) ⟨_,Jp,E_ b m fn T todo ds kd ro cs (Zb a),?_⟩;show J _ Stop m (TD b m fn T todo ds kd ro cs (Zb a)) (Qa.lk { U with M:=M₂ } 1 bb D ⟨b,169,sp⟩ s .unl2 lo);refine J.mcalm (x:=⟨b,169,sp⟩) rfl (Rc b m fn T todo ds kd ro cs (Zb a)) Qe ?_;show J _ Stop m (Gb b m fn T todo ds kd ro cs (Zb a)) _;refine J.munl2 (x:=⟨b,169,sp⟩) rfl (Qn (SE.of_info (g:=Gb b m fn T todo ds kd ro cs (Zb a)) (F2 b m fn T todo ds kd ro cs (Zb a)))) (Rd b m fn T todo ds kd ro cs (Zb a)) ⟨_,Q3,F2 b m fn T todo ds kd ro cs (Zb a),?_⟩;show J _ Stop m (TE b m fn T todo ds kd ro cs (Zb a)) (Qa.lk { U with M:=M₂ } 1 bb D ⟨b,169,sp⟩ s .fin lo);refine J.mcalm (x:=⟨b,169,sp⟩) rfl (Re b m fn T todo ds kd ro cs (Zb a)) Qe ?_;show J _ Stop m (Kd b m fn T todo ds kd ro cs (Zb a)) _;refine J.mena (x:=⟨b,169,sp⟩) rfl (Rg b m fn T todo ds kd ro cs (Zb a)) ?_;show J _ Stop m (Tc b m fn T todo ds kd ro cs (Zb a)) _;refine J.mcalm (x:=⟨b,169,sp⟩) rfl (Rh b m fn T todo ds kd ro cs (Zb a)) Qe ?_;rw[RS];exact k _ h
 refine J.mown ht (Qn (SE.of_info (g:=He b m fn T todo ds kd ro cs) (Ij b m fn T todo ds kd ro cs))) λ a ha=>?_;rcases ha with rfl|rfl
 .refine⟨_,_,Zs,Ij b m fn T todo ds kd ro cs,.inl rfl,?_⟩;show J _ Stop m (VP b m fn T todo ds kd ro cs) U;rw[R7];exact next 1
 .refine⟨_,_,Zs,wD b m fn T todo ds kd ro cs,.inl rfl,?_⟩;show J _ Stop m (FG b m fn T todo ds kd ro cs) U;rw[R8];exact next 9
