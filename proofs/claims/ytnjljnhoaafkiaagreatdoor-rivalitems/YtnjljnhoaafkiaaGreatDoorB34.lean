/- Lemmas. No conditions. -/
import Derived.Test.YtnjljnhoaafkiaaGreatDoorB15
import Derived.Test.YtnjljnhoaafkiaaGreatDoorB31
set_option linter.all false
set_option maxRecDepth 100000
namespace Go.Proofs
open Go.TM
abbrev Q5:=Za Tryz.prog 176 6
def MV:Extern.find Tryz.f169=some Extern.OsHooks.nano:=K1
def M_:Extern.find Tryz.f166=some Extern.Sync.canSpin:=K1
section
variable{b:Nat}{m:Bool}{c:Frame}{cs:List Frame}{U:Qa Tk}{Stop:QI Tk}{bb:Nat}{D:TM.Spec}{sp:Bool->Bool->TM.Spec}{s:Bool}{lo:Nat}
def Xk(b bb:Nat)(D:TM.Spec)(sp:Bool->Bool->TM.Spec)(s:Bool)(K:Qa Tk->Prop)(U:Qa Tk):Prop:=
 ∀v M lo,sp (if s then v else false) (if s then false else v) M->K { U with M:=U.M++M,tok:=⟨0,.wrk bb D,some (.lok ⟨b,169,sp⟩ s (.own v) lo)⟩ }
def J.nano'{g:Gr}(h:WW Tryz.prog g 169 #[])(k:∀n:Int,J Q5 Stop m (aft g (.int .i64 n)) U):J Q5 Stop m g U:=
 J.nano h Tryz.func169 K1 K1 K1 MV K1 k
def J.spin'{g:Gr}{n:Int}(h:WW Tryz.prog g 166 #[.int .i64 n])(b:n<4)(k:∀r:Bool,J Q5 Stop m (aft g (.bool r)) U):J Q5 Stop m g U:=
 J.spin h Tryz.func166 K1 K1 K1 M_ b k
def Ol(x:Nat->Value)(k:Xk b bb D sp s (J Q5 Stop m (Rf (c.finish (.tuple #[])) cs)) U):J Q5 Stop m (HG b m c cs x) (U.lk 1 bb D ⟨b,169,sp⟩ s .got lo):=by
 refine J.mena (x:=⟨b,169,sp⟩) rfl (wB b m c cs x) ?_;show J _ Stop m (OY b m c cs x) _;refine J.mcalm (x:=⟨b,169,sp⟩) rfl (NR b m c cs x) Q3 ?_;show J _ Stop m (Kd b m c cs x) _;refine J.macq (x:=⟨b,169,sp⟩) rfl (NS b m c cs x) λ v M hx=>?_;show J _ Stop m (OZ b m c cs x) _;refine J.mcalm (x:=⟨b,169,sp⟩) rfl (NT b m c cs x) Qf ?_;rw[NU];exact k v M lo hx
def Ko(x:Nat->Value)(ws it:Value)(k:Xk b bb D sp s (J Q5 Stop m (Rf (c.finish (.tuple #[])) cs)) U) :
  J Q5 Stop m (Jb b m c cs ws (.bool false) (.bool false) it (Zc 0) x) (U.lk 1 bb D ⟨b,169,sp⟩ s .idle 2):=by
 refine J.mcalm (x:=⟨b,169,sp⟩) rfl (vo b m c cs x ws it) Qf ?_;show J _ Stop m (PK b m c cs x ws it) _;refine J.midle (x:=⟨b,169,sp⟩) rfl (Qn (SE.of_info (g:=PK b m c cs x ws it) (FL b m c cs x ws it))) λ cc h1 h2=>?_;obtain rfl:cc=2:=O1
 refine .inr (.inl ⟨D1,_,Jp,FL b m c cs x ws it,?_⟩);show J _ Stop m (PL b m c cs x ws it) _;refine J.mcalm (x:=⟨b,169,sp⟩) rfl (wV b m c cs x ws it) Qf ?_;rw[wW];exact Ol _ k
def I9(x:Nat->Value)(k:Xk b bb D sp s (J Q5 Stop m (Rf (c.finish (.tuple #[])) cs)) U):J Q5 Stop m (Gi b m c cs x) (U.lk 1 bb D ⟨b,169,sp⟩ s .wai lo):=by
 refine J.nano' (wP b m c cs x) λ n=>?_;refine J.mcalm (x:=⟨b,169,sp⟩) rfl (pf b m c cs x n) Qf ?_;show J _ Stop m (Hm b m c cs x n) _;refine J.mblk (x:=⟨b,169,sp⟩) rfl (pk b m c cs x n) (pj b m c cs x n) (λ st=>⟨_,Zr,pd b m c cs x n st⟩) Q3 (pg b m c cs x n) ?_;show J _ Stop m (YC b m c cs x n) (U.lk 1 bb D ⟨b,169,sp⟩ s .wok 2);refine J.mcalm (x:=⟨b,169,sp⟩) rfl (pn b m c cs x n) Qf ?_;show J _ Stop m (Y3 b m c cs x n) _;refine J.nano' (jY b m c cs x n) λ n'=>?_;refine J.mcalm (x:=⟨b,169,sp⟩) rfl (jZ b m c cs x n n') Qf ?_;show J _ Stop m (PI b m c cs x n n') _;refine J.mwok (x:=⟨b,169,sp⟩) rfl (Qn (SE.of_info (g:=PI b m c cs x n n') (Ic b m c cs x n n'))) (.inl ⟨_,_,Zr,Ic b m c cs x n n',.inl rfl,?_⟩);show J _ Stop m (Gj b m c cs x n n') (U.lk 1 bb D ⟨b,169,sp⟩ s .wok 2);refine J.mcalm (x:=⟨b,169,sp⟩) rfl (j_ b m c cs x n n') Qf ?_;rw[we];generalize Ly _=f;generalize ZM _ 2=ws;generalize(ZM _:Nat->Value)=y;cases f with
 |true=>
  refine J.mcalm (x:=⟨b,169,sp⟩) rfl (xF b m c cs y ws) Qf ?_;show J _ Stop m (PN b m c cs y ws) _;refine J.mwok (x:=⟨b,169,sp⟩) rfl (Qn (SE.of_info (g:=PN b m c cs y ws) (FK b m c cs y ws))) (.inr ⟨_,Jp,FK b m c cs y ws,?_⟩);show J _ Stop m (Kq b m c cs y ws) (U.lk 1 bb D ⟨b,169,sp⟩ s .got 2);refine J.mcalm (x:=⟨b,169,sp⟩) rfl (RX b m c cs y ws) Qf ?_;rw[RY];exact Ol _ k
 |false=>
  refine J.mcalm (x:=⟨b,169,sp⟩) rfl (xE b m c cs y ws) Qf ?_;show J _ Stop m (PM b m c cs y ws) _;refine J.mwok (x:=⟨b,169,sp⟩) rfl (Qn (SE.of_info (g:=PM b m c cs y ws) (FI b m c cs y ws))) (.inr ⟨_,Jp,FI b m c cs y ws,?_⟩);show J _ Stop m (Kp b m c cs y ws) (U.lk 1 bb D ⟨b,169,sp⟩ s .got 2);refine J.mcalm (x:=⟨b,169,sp⟩) rfl (RU b m c cs y ws) Qf ?_;rw[RW];exact Ol _ k
def jX(x:Nat->Value)(i:Int)(k:Xk b bb D sp s (J Q5 Stop m (Rf (c.finish (.tuple #[])) cs)) U):J Q5 Stop m (Hg b m c cs x i) (U.lk 1 bb D ⟨b,169,sp⟩ s .idle 1):=by
 refine J.midle (x:=⟨b,169,sp⟩) rfl (Qn (SE.of_info (g:=Hg b m c cs x i) (Ia b m c cs x i))) λ cc h1 h2=>?_;obtain rfl|rfl:cc=1\/cc=2:=O1
 .refine .inr (.inr ⟨rfl,_,Jp,Ia b m c cs x i,?_⟩);show J _ Stop m (K8 b m c cs x i) (U.lk 1 bb D ⟨b,169,sp⟩ s .wai 1);refine J.mcalm (x:=⟨b,169,sp⟩) rfl (Rg b m c cs x i) Qf ?_;rw[Rh];exact I9 _ k
 .refine .inl ⟨_,_,Zd,wQ b m c cs x i,.inr rfl,?_⟩;show J _ Stop m (Ts b m c cs x i) (U.lk 1 bb D ⟨b,169,sp⟩ s .idle 2);refine J.mcalm (x:=⟨b,169,sp⟩) rfl (Rc b m c cs x i) Qf ?_;show J _ Stop m (Pr b m c cs x i) _;refine J.midle (x:=⟨b,169,sp⟩) rfl (Qn (SE.of_info (g:=Pr b m c cs x i) (EZ b m c cs x i))) λ cc h1 h2=>?_;obtain rfl:cc=2:=O1
  refine .inl ⟨_,_,Zr,EZ b m c cs x i,.inl rfl,?_⟩;show J _ Stop m (Ps b m c cs x i) (U.lk 1 bb D ⟨b,169,sp⟩ s .idle 2);refine J.mcalm (x:=⟨b,169,sp⟩) rfl (Rd b m c cs x i) Qf ?_;rw[Re];exact Ko _ _ _ k
def wO(x:Nat->Value)(k:Xk b bb D sp s (J Q5 Stop m (Rf (c.finish (.tuple #[])) cs)) U):J Q5 Stop m (Hf b m c cs x) (U.lk 1 bb D ⟨b,169,sp⟩ s .idle 1):=by
 refine J.midle (x:=⟨b,169,sp⟩) rfl (Qn (SE.of_info (g:=Hf b m c cs x) (I8 b m c cs x))) λ cc h1 h2=>?_;obtain rfl|rfl:cc=1\/cc=2:=O1
 .refine .inr (.inr ⟨rfl,_,Jp,I8 b m c cs x,?_⟩);show J _ Stop m (PE b m c cs x) (U.lk 1 bb D ⟨b,169,sp⟩ s .wai 1);refine J.mcalm (x:=⟨b,169,sp⟩) rfl (Ra b m c cs x) Qf ?_;rw[Rb];exact I9 _ k
 .refine .inl ⟨_,_,Zd,wM b m c cs x,.inr rfl,?_⟩;show J _ Stop m (Tq b m c cs x) (U.lk 1 bb D ⟨b,169,sp⟩ s .idle 2);refine J.mcalm (x:=⟨b,169,sp⟩) rfl (R7 b m c cs x) Qf ?_;show J _ Stop m (PC b m c cs x) _;refine J.midle (x:=⟨b,169,sp⟩) rfl (Qn (SE.of_info (g:=PC b m c cs x) (EY b m c cs x))) λ cc h1 h2=>?_;obtain rfl:cc=2:=O1
  refine .inl ⟨_,_,Zr,EY b m c cs x,.inl rfl,?_⟩;show J _ Stop m (PD b m c cs x) (U.lk 1 bb D ⟨b,169,sp⟩ s .idle 2);refine J.mcalm (x:=⟨b,169,sp⟩) rfl (R8 b m c cs x) Qf ?_;rw[R9];exact Ko _ _ _ k
def wL(x:Nat->Value)(k:Xk b bb D sp s (J Q5 Stop m (Rf (c.finish (.tuple #[])) cs)) U):J Q5 Stop m (Jb b m c cs (.int .i64 0) (.bool false) (.bool false) (.int .i64 4) (Zc 1) x) (U.lk 1 bb D ⟨b,169,sp⟩ s .idle 1):=by
 refine J.mcalm (x:=⟨b,169,sp⟩) rfl (wN b m c cs x) Qf ?_;exact wO x k
def Vu(x:Nat->Value)(i f:Int)(w:i<4)(B:∀v,v=0\/v=1->True)(h1:Xi (ZM (Qj (Tryz.prog) 169 m 4 (Ge b m c cs x i)) 5)=f)
  (z:∀y,J Q5 Stop m (Jb b m c cs (.int .i64 0) (.bool false) (.bool false) (.int .i64 f) (Zc 1) y) (U.lk 1 bb D ⟨b,169,sp⟩ s .idle 1))
  (k:Xk b bb D sp s (J Q5 Stop m (Rf (c.finish (.tuple #[])) cs)) U):J Q5 Stop m (Jb b m c cs (.int .i64 0) (.bool false) (.bool false) (.int .i64 i) (Zc 1) x) (U.lk 1 bb D ⟨b,169,sp⟩ s .idle 1):=by
 refine J.mcalm (x:=⟨b,169,sp⟩) rfl (pR b m c cs x i) Qf ?_;show J _ Stop m (Gm b m c cs x i) _;refine J.spin' (pQ b m c cs x i) w λ r=>?_;cases r with
 |false=>
  refine J.mcalm (x:=⟨b,169,sp⟩) rfl (jW b m c cs x i) Qf ?_;exact jX x i k
 |true=>
  refine J.mcalm (x:=⟨b,169,sp⟩) rfl (xf b m c cs x i) Qf ?_;show J _ Stop m (Hi b m c cs x i) _;refine J.midle (x:=⟨b,169,sp⟩) rfl (Qn (SE.of_info (g:=Hi b m c cs x i) (FD b m c cs x i))) λ cc h h2=>?_;obtain rfl|rfl:cc=1\/cc=2:=O1
  .refine .inl ⟨_,_,Zr,FD b m c cs x i,.inl rfl,?_⟩;show J _ Stop m (Ge b m c cs x i) (U.lk 1 bb D ⟨b,169,sp⟩ s .idle 1);refine J.mcalm (x:=⟨b,169,sp⟩) rfl (Rw b m c cs x i) Qf ?_;rw[NX,h1];exact z _
  .refine .inl ⟨_,_,Zr,w_ b m c cs x i,.inl rfl,?_⟩;show J _ Stop m (Pu b m c cs x i) (U.lk 1 bb D ⟨b,169,sp⟩ s .idle 2);refine J.mcalm (x:=⟨b,169,sp⟩) rfl (Ru b m c cs x i) Qf ?_;rw[Rv];exact Ko _ _ _ k
def pL(x:Nat->Value)(k:Xk b bb D sp s (J Q5 Stop m (Rf (c.finish (.tuple #[])) cs)) U):J Q5 Stop m (Jb b m c cs (.int .i64 0) (.bool false) (.bool false) (.int .i64 0) (Zc 1) x) (U.lk 1 bb D ⟨b,169,sp⟩ s .idle 1):=
 Vu x 0 1 D1 (λ _ _=>trivial) K1 (λ y=>Vu y 1 2 D1 (λ _ _=>trivial) K1 (λ y=>Vu y 2 3 D1 (λ _ _=>trivial) K1 (λ y=>Vu y 3 4 D1 (λ _ _=>trivial) K1 (λ y=>wL y k) k) k) k) k
def MZ(k:Xk b bb D sp s (J Q5 Stop m (Rf (c.finish (.tuple #[])) cs)) U):J Q5 Stop m (Rf (Frame.enter Tryz.prog 151 #[.pointer (some ⟨b,0,none⟩)] .normal) (c::cs)) (U.lk 1 bb D ⟨b,169,sp⟩ s .idle 1):=by
 show J _ Stop m (SD b m c cs) _;refine J.mcalm (x:=⟨b,169,sp⟩) rfl (wg b m c cs) Qf ?_;show J _ Stop m (Hh b m c cs) _;refine J.midle (x:=⟨b,169,sp⟩) rfl (Qn (SE.of_info (g:=Hh b m c cs) (Ie b m c cs))) λ cc h1 h2=>?_;obtain rfl|rfl:cc=1\/cc=2:=O1
 .refine .inl ⟨_,_,Zr,Ie b m c cs,.inl rfl,?_⟩;show J _ Stop m (Pl b m c cs) (U.lk 1 bb D ⟨b,169,sp⟩ s .idle 1);refine J.mcalm (x:=⟨b,169,sp⟩) rfl (Rn b m c cs) Qf ?_;rw[Ro];exact pL _ k
 .refine .inl ⟨_,_,Zr,wh b m c cs,.inl rfl,?_⟩;show J _ Stop m (VY b m c cs) (U.lk 1 bb D ⟨b,169,sp⟩ s .idle 2);refine J.mcalm (x:=⟨b,169,sp⟩) rfl (Rl b m c cs) Qf ?_;rw[Rm];exact Ko _ _ _ k
end
def R6{b bb:Nat}{D:TM.Spec}{sp:Bool->Bool->TM.Spec}{s:Bool}{lo:Nat}{U:Qa Tk}{Q:Value->Qa Tk->Prop}(ht:U.tok=⟨0,.wrk bb D,some (.lok ⟨b,169,sp⟩ s .idle lo)⟩)
  (h:Xk b bb D sp s (Q (.tuple #[])) U):Qb Q5 92 #[.pointer (some ⟨b,0,none⟩)] Q U:=by
 intro Stop m c cs k;show J _ Stop m (Tj b m c cs) U;refine J.mcalm ht (Nt b m c cs) Qf ?_;show J _ Stop m (K5 b m c cs) U;refine J.mdis ht (Nu b m c cs) ?_;show J _ Stop m (Tm b m c cs) (U.lk 1 bb D ⟨b,169,sp⟩ s .idle lo);refine J.mcalm (x:=⟨b,169,sp⟩) rfl (Nv b m c cs) Qf ?_;show J _ Stop m (H7 b m c cs) _
 have f:∀cc,J Q5 Stop m (Tn b m c cs) (U.lk 1 bb D ⟨b,169,sp⟩ s .got cc):=by
  intro cc;refine J.mcalm (x:=⟨b,169,sp⟩) rfl (Ny b m c cs) Qf ?_;show J _ Stop m (K6 b m c cs) _;refine J.mena (x:=⟨b,169,sp⟩) rfl (Nz b m c cs) ?_;show J _ Stop m (To b m c cs) _;refine J.mcalm (x:=⟨b,169,sp⟩) rfl (NA b m c cs) Q3 ?_;show J _ Stop m (K7 b m c cs) _;refine J.macq (x:=⟨b,169,sp⟩) rfl (NB b m c cs) λ v M hx=>?_;show J _ Stop m (Tp b m c cs) _;refine J.mcalm (x:=⟨b,169,sp⟩) rfl (NC b m c cs) Qf ?_;rw[ND];exact k _ _ (h v M cc hx)
 refine J.midle (x:=⟨b,169,sp⟩) rfl (Qn (SE.of_info (g:=H7 b m c cs) (O7 b m c cs))) λ cc h1 h2=>?_;obtain rfl|rfl|rfl:cc=0\/cc=1\/cc=2:=O1
 .exact .inr (.inl ⟨D1,_,Jp,O7 b m c cs,f 0⟩)
 .refine .inl ⟨_,_,Zd,Nw b m c cs,.inr rfl,?_⟩;show J _ Stop m (Pt b m c cs) (U.lk 1 bb D ⟨b,169,sp⟩ s .idle 1);refine J.mcalm (x:=⟨b,169,sp⟩) rfl (Rp b m c cs) Qf ?_;rw[Rq];refine MZ λ v M lo' hx=>?_;refine J.mcalm (x:=⟨b,169,sp⟩) rfl (Rr b m c cs) Qf ?_;rw[Rs];exact k _ _ (h v M lo' hx)
 .exact .inr (.inl ⟨D1,_,Jp,O7 b m c cs,f 2⟩)
def zQ{b bb:Nat}{D:TM.Spec}{sp:Bool->Bool->TM.Spec}{s v:Bool}{lo:Nat}{U:Qa Tk}{M₁ M₂:List Qw}{Q:Qa Tk->Prop}(ht:U.tok=⟨0,.wrk bb D,some (.lok ⟨b,169,sp⟩ s (.own v) lo)⟩)(z:U.M=M₁++M₂)
  (w:sp (if s then v else true) (if s then true else v) M₁) (h:Q { U with M:=M₂,tok:=⟨0,.wrk bb D,some (.lok ⟨b,169,sp⟩ s .fin lo)⟩ }):Xy Q5 93 #[.pointer (some ⟨b,0,none⟩)] Q U:=by
 intro Stop m c cs f k;obtain⟨fn,T,todo,ds,mode,kd,ro⟩:=c;simp only at f;subst f;show J _ Stop m (SF b m fn T todo ds kd ro cs) U;refine J.mcalm ht (xh b m fn T todo ds kd ro cs) Qf ?_;show J _ Stop m (Hb b m fn T todo ds kd ro cs) U
 have next:∀a,J Q5 Stop m (PJ b m fn T todo ds kd ro cs (Zc a)) U:=by
  intro a;refine J.mcalm ht (xD b m fn T todo ds kd ro cs (Zc a)) Q3 ?_;show J _ Stop m (Y4 b m fn T todo ds kd ro cs (Zc a)) U;refine J.mrel ht z w (xu b m fn T todo ds kd ro cs (Zc a)) ?_;show J _ Stop m (SG b m fn T todo ds kd ro cs (Zc a)) _;refine J.mcalm (x:=⟨b,169,sp⟩) rfl (xw b m fn T todo ds kd ro cs (Zc a)) Qf ?_;show J _ Stop m (Y5 b m fn T todo ds kd ro cs (Zc a)) _;refine J.mdis (x:=⟨b,169,sp⟩) rfl (xx b m fn T todo ds kd ro cs (Zc a)) ?_;show J _ Stop m (SH b m fn T todo ds kd ro cs (Zc a)) (Qa.lk { U with M:=M₂ } 1 bb D ⟨b,169,sp⟩ s .rls lo);refine J.mcalm (x:=⟨b,169,sp⟩) rfl (xy b m fn T todo ds kd ro cs (Zc a)) Qf ?_;show J _ Stop m (Hc b m fn T todo ds kd ro cs (Zc a)) _;refine J.mrls (x:=⟨b,169,sp⟩) rfl (Qn (SE.of_info (g:=Hc b m fn T todo ds kd ro cs (Zc a)) (FH b m fn T todo ds kd ro cs (Zc a)))) ⟨_,Q3,FH b m fn T todo ds kd ro cs (Zc a),?_⟩ ⟨_,Q3,xA b m fn T todo ds kd ro cs (Zc a),?_⟩
  .show J _ Stop m (SI b m fn T todo ds kd ro cs (Zc a)) (Qa.lk { U with M:=M₂ } 1 bb D ⟨b,169,sp⟩ s .fin lo);refine J.mcalm (x:=⟨b,169,sp⟩) rfl (xB b m fn T todo ds kd ro cs (Zc a)) Qf ?_;show J _ Stop m (K9 b m fn T todo ds kd ro cs (Zc a)) _;refine J.mena (x:=⟨b,169,sp⟩) rfl (RL b m fn T todo ds kd ro cs (Zc a)) ?_;show J _ Stop m (Tv b m fn T todo ds kd ro cs (Zc a)) _;refine J.mcalm (x:=⟨b,169,sp⟩) rfl (RM b m fn T todo ds kd ro cs (Zc a)) Qf ?_;rw[RN];exact k _ h
  .show J _ Stop m (SJ b m fn T todo ds kd ro cs (Zc a)) (Qa.lk { U with M:=M₂ } 1 bb D ⟨b,169,sp⟩ s .unl lo);refine J.mcalm (x:=⟨b,169,sp⟩) rfl (xC b m fn T todo ds kd ro cs (Zc a)) Qf ?_;show J _ Stop m (Pw b m fn T todo ds kd ro cs (Zc a)) _;refine J.munl (x:=⟨b,169,sp⟩) rfl (Qn (SE.of_info (g:=Pw b m fn T todo ds kd ro cs (Zc a)) (F2 b m fn T todo ds kd ro cs (Zc a)))) ⟨_,Jp,F2 b m fn T todo ds kd ro cs (Zc a),?_⟩;show J _ Stop m (T0 b m fn T todo ds kd ro cs (Zc a)) (Qa.lk { U with M:=M₂ } 1 bb D ⟨b,169,sp⟩ s .unl2 lo);refine J.mcalm (x:=⟨b,169,sp⟩) rfl (RO b m fn T todo ds kd ro cs (Zc a)) Qf ?_;show J _ Stop m (G7 b m fn T todo ds kd ro cs (Zc a)) _;refine J.munl2 (x:=⟨b,169,sp⟩) rfl (Qn (SE.of_info (g:=G7 b m fn T todo ds kd ro cs (Zc a)) (EW b m fn T todo ds kd ro cs (Zc a)))) (RP b m fn T todo ds kd ro cs (Zc a)) ⟨_,Q3,EW b m fn T todo ds kd ro cs (Zc a),?_⟩;show J _ Stop m (T4 b m fn T todo ds kd ro cs (Zc a)) (Qa.lk { U with M:=M₂ } 1 bb D ⟨b,169,sp⟩ s .fin lo);refine J.mcalm (x:=⟨b,169,sp⟩) rfl (RQ b m fn T todo ds kd ro cs (Zc a)) Qf ?_;show J _ Stop m (Ka b m fn T todo ds kd ro cs (Zc a)) _;refine J.mena (x:=⟨b,169,sp⟩) rfl (RR b m fn T todo ds kd ro cs (Zc a)) ?_;show J _ Stop m (T5 b m fn T todo ds kd ro cs (Zc a)) _;refine J.mcalm (x:=⟨b,169,sp⟩) rfl (RS b m fn T todo ds kd ro cs (Zc a)) Qf ?_;rw[RT];exact k _ h
 refine J.mown ht (Qn (SE.of_info (g:=Hb b m fn T todo ds kd ro cs) (FF b m fn T todo ds kd ro cs))) λ a ha=>?_;rcases ha with rfl|rfl
 .refine⟨_,_,Zr,FF b m fn T todo ds kd ro cs,.inl rfl,?_⟩;show J _ Stop m (VM b m fn T todo ds kd ro cs) U;rw[RJ];exact next 1
 .refine⟨_,_,Zr,xr b m fn T todo ds kd ro cs,.inl rfl,?_⟩;show J _ Stop m (FG b m fn T todo ds kd ro cs) U;rw[RK];exact next 9
end Go.Proofs

