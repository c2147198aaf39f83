/- Lemmas. No conditions. -/
import Derived.Test.YtignaaddghcanaaGreatDoorB14
import Derived.Test.YtignaaddghcanaaGreatDoorB30
set_option linter.all false
set_option maxRecDepth 100000
namespace Go.TM
open Go.Proofs
variable{lo b bb:Nat}{m s v:Bool}{U:Qa Tk}{Stop:QH Tk}{g:Gr}{n:Int}{c:Frame}{cs:List Frame}{D:Spec}{sp:Bool->Bool->Spec}{Q:Value->Qa Tk->Prop}{M₁ M₂:List Qw}
abbrev Q6:=Za Tryz.prog 173 6
def MC:Extern.find Tryz.f177=some Extern.OsHooks.nano:=K1
def Mm:Extern.find Tryz.f174=some Extern.Sync.canSpin:=K1
def Xh(b bb:Nat)(D:TM.Spec)(sp:Bool->Bool->TM.Spec)(s:Bool)(K:Qa Tk->Prop)(U:Qa Tk):Prop:=
 ∀v M lo,sp (if s then v else false) (if s then false else v) M->K { U with M:=U.M++M,tok:=⟨0,.wrk bb D,some (.lok ⟨b,166,sp⟩ s (.own v) lo)⟩ }
def J.nano'(h:WU Tryz.prog g 177 #[])(k:∀n:Int,J Q6 Stop m (aft g (.int .i64 n)) U):J Q6 Stop m g U:=
 J.nano h Tryz.func177 K1 K1 K1 MC K1 k
def J.spin'(h:WU Tryz.prog g 174 #[.int .i64 n])(b:n<4)(k:∀r:Bool,J Q6 Stop m (aft g (.bool r)) U):J Q6 Stop m g U:=
 J.spin h Tryz.func174 K1 K1 K1 Mm b k
def Oa(x:Nat->Value)(k:Xh b bb D sp s (J Q6 Stop m (Rf (c.finish (.tuple #[])) cs)) U):J Q6 Stop m (Hz b m c cs x) (U.lk 1 bb D ⟨b,166,sp⟩ s .got lo):=by
 refine J.mena (x:=⟨b,166,sp⟩) rfl (jZ b m c cs x) ?_;show J _ Stop m (OO b m c cs x) _;refine J.mcalm (x:=⟨b,166,sp⟩) rfl (NA b m c cs x) Q3 ?_;show J _ Stop m (K5 b m c cs x) _;refine J.macq (x:=⟨b,166,sp⟩) rfl (NB b m c cs x) λ v M f=>?_;show J _ Stop m (OP b m c cs x) _;refine J.mcalm (x:=⟨b,166,sp⟩) rfl (NC b m c cs x) Qe ?_;rw[ND];exact k v M lo f
def KF(x:Nat->Value)(ws it:Value)(k:Xh b bb D sp s (J Q6 Stop m (Rf (c.finish (.tuple #[])) cs)) U) :
  J Q6 Stop m (Jc b m c cs ws (.bool false) (.bool false) it (Zb 0) x) (U.lk 1 bb D ⟨b,166,sp⟩ s .idle 2):=by
 refine J.mcalm (x:=⟨b,166,sp⟩) rfl (gS b m c cs x ws it) Qe ?_;show J _ Stop m (PC b m c cs x ws it) _;refine J.midle (x:=⟨b,166,sp⟩) rfl (Qn (SE.of_info (g:=PC b m c cs x ws it) (Ib b m c cs x ws it))) λ cc f h=>?_;obtain rfl:cc=2:=O1
 refine .inr (.inl ⟨D1,_,Jo,Ib b m c cs x ws it,?_⟩);show J _ Stop m (PD b m c cs x ws it) _;refine J.mcalm (x:=⟨b,166,sp⟩) rfl (xr b m c cs x ws it) Qe ?_;rw[xu];exact Oa _ k
def FU(x:Nat->Value)(k:Xh b bb D sp s (J Q6 Stop m (Rf (c.finish (.tuple #[])) cs)) U):J Q6 Stop m (Ge b m c cs x) (U.lk 1 bb D ⟨b,166,sp⟩ s .wai lo):=by
 refine J.nano' (wm b m c cs x) λ n=>?_;refine J.mcalm (x:=⟨b,166,sp⟩) rfl (pa b m c cs x n) Qe ?_;show J _ Stop m (Hl b m c cs x n) _;refine J.mblk (x:=⟨b,166,sp⟩) rfl (pe b m c cs x n) (pd b m c cs x n) (λ st=>⟨_,Zr,g_ b m c cs x n st⟩) Q3 (pb b m c cs x n) ?_;show J _ Stop m (Yq b m c cs x n) (U.lk 1 bb D ⟨b,166,sp⟩ s .wok 2);refine J.mcalm (x:=⟨b,166,sp⟩) rfl (pf b m c cs x n) Qe ?_;show J _ Stop m (KW b m c cs x n) _;refine J.nano' (wv b m c cs x n) λ n'=>?_;refine J.mcalm (x:=⟨b,166,sp⟩) rfl (ww b m c cs x n n') Qe ?_;show J _ Stop m (Px b m c cs x n n') _;refine J.mwok (x:=⟨b,166,sp⟩) rfl (Qn (SE.of_info (g:=Px b m c cs x n n') (FX b m c cs x n n'))) (.inl ⟨_,_,Zr,FX b m c cs x n n',.inl rfl,?_⟩);show J _ Stop m (Gf b m c cs x n n') (U.lk 1 bb D ⟨b,166,sp⟩ s .wok 2);refine J.mcalm (x:=⟨b,166,sp⟩) rfl (wx b m c cs x n n') Qe ?_;rw[wy];generalize Lh _=f;generalize ZL _ 2=ws;generalize(ZL _:Nat->Value)=y;cases f with
 |true=>
  refine J.mcalm (x:=⟨b,166,sp⟩) rfl (wS b m c cs y ws) Qe ?_;show J _ Stop m (Pw b m c cs y ws) _;refine J.mwok (x:=⟨b,166,sp⟩) rfl (Qn (SE.of_info (g:=Pw b m c cs y ws) (Ia b m c cs y ws))) (.inr ⟨_,Jo,Ia b m c cs y ws,?_⟩);show J _ Stop m (VS b m c cs y ws) (U.lk 1 bb D ⟨b,166,sp⟩ s .got 2);refine J.mcalm (x:=⟨b,166,sp⟩) rfl (RD b m c cs y ws) Qe ?_;rw[RE];exact Oa _ k
 |false=>
  refine J.mcalm (x:=⟨b,166,sp⟩) rfl (wR b m c cs y ws) Qe ?_;show J _ Stop m (Pz b m c cs y ws) _;refine J.mwok (x:=⟨b,166,sp⟩) rfl (Qn (SE.of_info (g:=Pz b m c cs y ws) (I9 b m c cs y ws))) (.inr ⟨_,Jo,I9 b m c cs y ws,?_⟩);show J _ Stop m (Ke b m c cs y ws) (U.lk 1 bb D ⟨b,166,sp⟩ s .got 2);refine J.mcalm (x:=⟨b,166,sp⟩) rfl (RB b m c cs y ws) Qe ?_;rw[RC];exact Oa _ k
def wu(x:Nat->Value)(i:Int)(k:Xh b bb D sp s (J Q6 Stop m (Rf (c.finish (.tuple #[])) cs)) U):J Q6 Stop m (Hf b m c cs x i) (U.lk 1 bb D ⟨b,166,sp⟩ s .idle 1):=by
 refine J.midle (x:=⟨b,166,sp⟩) rfl (Qn (SE.of_info (g:=Hf b m c cs x i) (FV b m c cs x i))) λ cc f h=>?_;obtain rfl|rfl:cc=1\/cc=2:=O1
 .refine .inr (.inr ⟨rfl,_,Jo,FV b m c cs x i,?_⟩);show J _ Stop m (Kb b m c cs x i) (U.lk 1 bb D ⟨b,166,sp⟩ s .wai 1);refine J.mcalm (x:=⟨b,166,sp⟩) rfl (Nm b m c cs x i) Qe ?_;rw[Nn];exact FU _ k
 .refine .inl ⟨_,_,Zc,wn b m c cs x i,.inr rfl,?_⟩;show J _ Stop m (Te b m c cs x i) (U.lk 1 bb D ⟨b,166,sp⟩ s .idle 2);refine J.mcalm (x:=⟨b,166,sp⟩) rfl (Nj b m c cs x i) Qe ?_;show J _ Stop m (Pp b m c cs x i) _;refine J.midle (x:=⟨b,166,sp⟩) rfl (Qn (SE.of_info (g:=Pp b m c cs x i) (EL b m c cs x i))) λ cc f h=>?_;obtain rfl:cc=2:=O1
  refine .inl ⟨_,_,Zr,EL b m c cs x i,.inl rfl,?_⟩;show J _ Stop m (Pq b m c cs x i) (U.lk 1 bb D ⟨b,166,sp⟩ s .idle 2);refine J.mcalm (x:=⟨b,166,sp⟩) rfl (Nk b m c cs x i) Qe ?_;rw[Nl];exact KF _ _ _ k
def wl(x:Nat->Value)(k:Xh b bb D sp s (J Q6 Stop m (Rf (c.finish (.tuple #[])) cs)) U):J Q6 Stop m (He b m c cs x) (U.lk 1 bb D ⟨b,166,sp⟩ s .idle 1):=by
 refine J.midle (x:=⟨b,166,sp⟩) rfl (Qn (SE.of_info (g:=He b m c cs x) (FT b m c cs x))) λ cc f h=>?_;obtain rfl|rfl:cc=1\/cc=2:=O1
 .refine .inr (.inr ⟨rfl,_,Jo,FT b m c cs x,?_⟩);show J _ Stop m (Po b m c cs x) (U.lk 1 bb D ⟨b,166,sp⟩ s .wai 1);refine J.mcalm (x:=⟨b,166,sp⟩) rfl (Nh b m c cs x) Qe ?_;rw[Ni];exact FU _ k
 .refine .inl ⟨_,_,Zc,wi b m c cs x,.inr rfl,?_⟩;show J _ Stop m (Td b m c cs x) (U.lk 1 bb D ⟨b,166,sp⟩ s .idle 2);refine J.mcalm (x:=⟨b,166,sp⟩) rfl (Nd b m c cs x) Qe ?_;show J _ Stop m (Pm b m c cs x) _;refine J.midle (x:=⟨b,166,sp⟩) rfl (Qn (SE.of_info (g:=Pm b m c cs x) (EK b m c cs x))) λ cc f h=>?_;obtain rfl:cc=2:=O1
  refine .inl ⟨_,_,Zr,EK b m c cs x,.inl rfl,?_⟩;show J _ Stop m (Pn b m c cs x) (U.lk 1 bb D ⟨b,166,sp⟩ s .idle 2);refine J.mcalm (x:=⟨b,166,sp⟩) rfl (Nf b m c cs x) Qe ?_;rw[Ng];exact KF _ _ _ k
def wh(x:Nat->Value)(k:Xh b bb D sp s (J Q6 Stop m (Rf (c.finish (.tuple #[])) cs)) U):J Q6 Stop m (Jc b m c cs (.int .i64 0) (.bool false) (.bool false) (.int .i64 4) (Zb 1) x) (U.lk 1 bb D ⟨b,166,sp⟩ s .idle 1):=by
 refine J.mcalm (x:=⟨b,166,sp⟩) rfl (wj b m c cs x) Qe ?_;exact wl x k
def Vf(x:Nat->Value)(i f:Int)(z:i<4)(F:∀v,v=0\/v=1->True)(h:Xf (ZL (Qi (Tryz.prog) 166 m 4 (G5 b m c cs x i)) 5)=f)
  (B:∀y,J Q6 Stop m (Jc b m c cs (.int .i64 0) (.bool false) (.bool false) (.int .i64 f) (Zb 1) y) (U.lk 1 bb D ⟨b,166,sp⟩ s .idle 1))
  (k:Xh b bb D sp s (J Q6 Stop m (Rf (c.finish (.tuple #[])) cs)) U):J Q6 Stop m (Jc b m c cs (.int .i64 0) (.bool false) (.bool false) (.int .i64 i) (Zb 1) x) (U.lk 1 bb D ⟨b,166,sp⟩ s .idle 1):=by
 refine J.mcalm (x:=⟨b,166,sp⟩) rfl (gZ b m c cs x i) Qe ?_;show J _ Stop m (Gg b m c cs x i) _;refine J.spin' (gY b m c cs x i) z λ r=>?_;cases r with
 |false=>
  refine J.mcalm (x:=⟨b,166,sp⟩) rfl (wq b m c cs x i) Qe ?_;exact wu x i k
 |true=>
  refine J.mcalm (x:=⟨b,166,sp⟩) rfl (wE b m c cs x i) Qe ?_;show J _ Stop m (Hh b m c cs x i) _;refine J.midle (x:=⟨b,166,sp⟩) rfl (Qn (SE.of_info (g:=Hh b m c cs x i) (I4 b m c cs x i))) λ cc w E=>?_;obtain rfl|rfl:cc=1\/cc=2:=O1
  .refine .inl ⟨_,_,Zr,I4 b m c cs x i,.inl rfl,?_⟩;show J _ Stop m (G5 b m c cs x i) (U.lk 1 bb D ⟨b,166,sp⟩ s .idle 1);refine J.mcalm (x:=⟨b,166,sp⟩) rfl (Rb b m c cs x i) Qe ?_;rw[Rc,h];exact B _
  .refine .inl ⟨_,_,Zr,wD b m c cs x i,.inl rfl,?_⟩;show J _ Stop m (Ps b m c cs x i) (U.lk 1 bb D ⟨b,166,sp⟩ s .idle 2);refine J.mcalm (x:=⟨b,166,sp⟩) rfl (R9 b m c cs x i) Qe ?_;rw[Ra];exact KF _ _ _ k
def gm(x:Nat->Value)(k:Xh b bb D sp s (J Q6 Stop m (Rf (c.finish (.tuple #[])) cs)) U):J Q6 Stop m (Jc b m c cs (.int .i64 0) (.bool false) (.bool false) (.int .i64 0) (Zb 1) x) (U.lk 1 bb D ⟨b,166,sp⟩ s .idle 1):=
 Vf x 0 1 D1 (λ _ _=>trivial) K1 (λ y=>Vf y 1 2 D1 (λ _ _=>trivial) K1 (λ y=>Vf y 2 3 D1 (λ _ _=>trivial) K1 (λ y=>Vf y 3 4 D1 (λ _ _=>trivial) K1 (λ y=>wh y k) k) k) k) k
def MQ(k:Xh b bb D sp s (J Q6 Stop m (Rf (c.finish (.tuple #[])) cs)) U):J Q6 Stop m (Rf (Frame.enter Tryz.prog 151 #[.pb b] .normal) (c::cs)) (U.lk 1 bb D ⟨b,166,sp⟩ s .idle 1):=by
 show J _ Stop m (Sq b m c cs) _;refine J.mcalm (x:=⟨b,166,sp⟩) rfl (wz b m c cs) Qe ?_;show J _ Stop m (Hg b m c cs) _;refine J.midle (x:=⟨b,166,sp⟩) rfl (Qn (SE.of_info (g:=Hg b m c cs) (FY b m c cs))) λ cc f h=>?_;obtain rfl|rfl:cc=1\/cc=2:=O1
 .refine .inl ⟨_,_,Zr,FY b m c cs,.inl rfl,?_⟩;show J _ Stop m (Pc b m c cs) (U.lk 1 bb D ⟨b,166,sp⟩ s .idle 1);refine J.mcalm (x:=⟨b,166,sp⟩) rfl (R3 b m c cs) Qe ?_;rw[R4];exact gm _ k
 .refine .inl ⟨_,_,Zr,wA b m c cs,.inl rfl,?_⟩;show J _ Stop m (VE b m c cs) (U.lk 1 bb D ⟨b,166,sp⟩ s .idle 2);refine J.mcalm (x:=⟨b,166,sp⟩) rfl (R1 b m c cs) Qe ?_;rw[R2];exact KF _ _ _ k
def NO(z:U.tok=⟨0,.wrk bb D,some (.lok ⟨b,166,sp⟩ s .idle lo)⟩)
  (w:Xh b bb D sp s (Q (.tuple #[])) U):Qb Q6 93 #[.pb b] Q U:=by
 intro Stop m c cs k;show J _ Stop m (T8 b m c cs) U;refine J.mcalm z (NE b m c cs) Qe ?_;show J _ Stop m (K8 b m c cs) U;refine J.mdis z (NF b m c cs) ?_;show J _ Stop m (T9 b m c cs) (U.lk 1 bb D ⟨b,166,sp⟩ s .idle lo);refine J.mcalm (x:=⟨b,166,sp⟩) rfl (NG b m c cs) Qe ?_;show J _ Stop m (H3 b m c cs) _
 have f:∀cc,J Q6 Stop m (Ta b m c cs) (U.lk 1 bb D ⟨b,166,sp⟩ s .got cc):=by
  intro cc;refine J.mcalm (x:=⟨b,166,sp⟩) rfl (NI b m c cs) Qe ?_;show J _ Stop m (K9 b m c cs) _;refine J.mena (x:=⟨b,166,sp⟩) rfl (NJ b m c cs) ?_;show J _ Stop m (Tb b m c cs) _;refine J.mcalm (x:=⟨b,166,sp⟩) rfl (NK b m c cs) Q3 ?_;show J _ Stop m (Ka b m c cs) _;refine J.macq (x:=⟨b,166,sp⟩) rfl (NL b m c cs) λ v M h=>?_;show J _ Stop m (Tc b m c cs) _;refine J.mcalm (x:=⟨b,166,sp⟩) rfl (NM b m c cs) Qe ?_;rw[NN];exact k _ _ (w v M cc h)
 refine J.midle (x:=⟨b,166,sp⟩) rfl (Qn (SE.of_info (g:=H3 b m c cs) (O4 b m c cs))) λ cc B E=>?_;obtain rfl|rfl|rfl:cc=0\/cc=1\/cc=2:=O1
 .exact .inr (.inl ⟨D1,_,Jo,O4 b m c cs,f 0⟩)
 .refine .inl ⟨_,_,Zc,NH b m c cs,.inr rfl,?_⟩;show J _ Stop m (Pr b m c cs) (U.lk 1 bb D ⟨b,166,sp⟩ s .idle 1);refine J.mcalm (x:=⟨b,166,sp⟩) rfl (R5 b m c cs) Qe ?_;rw[R6];refine MQ λ v M lo' h=>?_;refine J.mcalm (x:=⟨b,166,sp⟩) rfl (R7 b m c cs) Qe ?_;rw[R8];exact k _ _ (w v M lo' h)
 .exact .inr (.inl ⟨D1,_,Jo,O4 b m c cs,f 2⟩)
def zv{Q:Qa Tk->Prop}(f:U.tok=⟨0,.wrk bb D,some (.lok ⟨b,166,sp⟩ s (.own v) lo)⟩)(B:U.M=M₁++M₂)
  (z:sp (if s then v else true) (if s then true else v) M₁) (w:Q { U with M:=M₂,tok:=⟨0,.wrk bb D,some (.lok ⟨b,166,sp⟩ s .fin lo)⟩ }):Xy Q6 94 #[.pb b] Q U:=by
 intro Stop m c cs h k;obtain⟨fn,T,todo,ds,mode,kd,ro⟩:=c;simp only at h;subst h;show J _ Stop m (Sr b m fn T todo ds kd ro cs) U;refine J.mcalm f (wG b m fn T todo ds kd ro cs) Qe ?_;show J _ Stop m (H8 b m fn T todo ds kd ro cs) U
 have next:∀a,J Q6 Stop m (Py b m fn T todo ds kd ro cs (Zb a)) U:=by
  intro a;refine J.mcalm f (jW b m fn T todo ds kd ro cs (Zb a)) Q3 ?_;show J _ Stop m (KY b m fn T todo ds kd ro cs (Zb a)) U;refine J.mrel f B z (jP b m fn T todo ds kd ro cs (Zb a)) ?_;show J _ Stop m (Ss b m fn T todo ds kd ro cs (Zb a)) _;refine J.mcalm (x:=⟨b,166,sp⟩) rfl (jQ b m fn T todo ds kd ro cs (Zb a)) Qe ?_;show J _ Stop m (KZ b m fn T todo ds kd ro cs (Zb a)) _;refine J.mdis (x:=⟨b,166,sp⟩) rfl (jR b m fn T todo ds kd ro cs (Zb a)) ?_;show J _ Stop m (Su b m fn T todo ds kd ro cs (Zb a)) (Qa.lk { U with M:=M₂ } 1 bb D ⟨b,166,sp⟩ s .rls lo);refine J.mcalm (x:=⟨b,166,sp⟩) rfl (jS b m fn T todo ds kd ro cs (Zb a)) Qe ?_;show J _ Stop m (H9 b m fn T todo ds kd ro cs (Zb a)) _;refine J.mrls (x:=⟨b,166,sp⟩) rfl (Qn (SE.of_info (g:=H9 b m fn T todo ds kd ro cs (Zb a)) (I8 b m fn T todo ds kd ro cs (Zb a)))) ⟨_,Q3,I8 b m fn T todo ds kd ro cs (Zb a),?_⟩ ⟨_,Q3,jT b m fn T todo ds kd ro cs (Zb a),?_⟩
  .show J _ Stop m (Sv b m fn T todo ds kd ro cs (Zb a)) (Qa.lk { U with M:=M₂ } 1 bb D ⟨b,166,sp⟩ s .fin lo);refine J.mcalm (x:=⟨b,166,sp⟩) rfl (jU b m fn T todo ds kd ro cs (Zb a)) Qe ?_;show J _ Stop m (Kc b m fn T todo ds kd ro cs (Zb a)) _;refine J.mena (x:=⟨b,166,sp⟩) rfl (NS b m fn T todo ds kd ro cs (Zb a)) ?_;show J _ Stop m (Th b m fn T todo ds kd ro cs (Zb a)) _;refine J.mcalm (x:=⟨b,166,sp⟩) rfl (NT b m fn T todo ds kd ro cs (Zb a)) Qe ?_;rw[NU];exact k _ w
  .show J _ Stop m (Sw b m fn T todo ds kd ro cs (Zb a)) (Qa.lk { U with M:=M₂ } 1 bb D ⟨b,166,sp⟩ s .unl lo);refine J.mcalm (x:=⟨b,166,sp⟩) rfl (jV b m fn T todo ds kd ro cs (Zb a)) Qe ?_;show J _ Stop m (Pu b m fn T todo ds kd ro cs (Zb a)) _;refine J.munl (x:=⟨b,166,sp⟩) rfl (Qn (SE.of_info (g:=Pu b m fn T todo ds kd ro cs (Zb a)) (EN b m fn T todo ds kd ro cs (Zb a)))) ⟨_,Jo,EN b m fn T todo ds kd ro cs (Zb a),?_⟩;show J _ Stop m (Ti b m fn T todo ds kd ro cs (Zb a)) (Qa.lk { U with M:=M₂ } 1 bb D ⟨b,166,sp⟩ s .unl2 lo);refine J.mcalm (x:=⟨b,166,sp⟩) rfl (NV b m fn T todo ds kd ro cs (Zb a)) Qe ?_;show J _ Stop m (G6 b m fn T todo ds kd ro cs (Zb a)) _;refine J.munl2 (x:=⟨b,166,sp⟩) rfl (Qn (SE.of_info (g:=G6 b m fn T todo ds kd ro cs (Zb a)) (EO b m fn T todo ds kd ro cs (Zb a)))) (NW b m fn T todo ds kd ro cs (Zb a)) ⟨_,Q3,EO b m fn T todo ds kd ro cs (Zb a),?_⟩;show J _ Stop m (Tj b m fn T todo ds kd ro cs (Zb a)) (Qa.lk { U with M:=M₂ } 1 bb D ⟨b,166,sp⟩ s .fin lo);refine J.mcalm (x:=⟨b,166,sp⟩) rfl (NX b m fn T todo ds kd ro cs (Zb a)) Qe ?_;show J _ Stop m (Kd b m fn T todo ds kd ro cs (Zb a)) _;refine J.mena (x:=⟨b,166,sp⟩) rfl (NY b m fn T todo ds kd ro cs (Zb a)) ?_;show J _ Stop m (Tm b m fn T todo ds kd ro cs (Zb a)) _;refine J.mcalm (x:=⟨b,166,sp⟩) rfl (Rz b m fn T todo ds kd ro cs (Zb a)) Qe ?_;rw[RA];exact k _ w
 refine J.mown f (Qn (SE.of_info (g:=H8 b m fn T todo ds kd ro cs) (I6 b m fn T todo ds kd ro cs))) λ a E=>?_;rcases E with rfl|rfl
 .refine⟨_,_,Zr,I6 b m fn T todo ds kd ro cs,.inl rfl,?_⟩;show J _ Stop m (VJ b m fn T todo ds kd ro cs) U;rw[NQ];exact next 1
 .refine⟨_,_,Zr,jO b m fn T todo ds kd ro cs,.inl rfl,?_⟩;show J _ Stop m (I7 b m fn T todo ds kd ro cs) U;rw[NR];exact next 9
