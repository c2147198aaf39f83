/- Lemmas. No conditions. -/
import Derived.Test.YtcakpkianonbkaaGreatDoorB18
import Derived.Test.YtcakpkianonbkaaGreatDoorB34
set_option linter.all false
set_option maxRecDepth 100000
namespace Go.Proofs
open Go.TM
abbrev Za:=Zd Tryz.prog 175 6
def Aw:Extern.find Tryz.f153=some Extern.OsHooks.nano:=K1
def AJ:Extern.find Tryz.f150=some Extern.Sync.canSpin:=K1
section
variable{b:Nat}{m:Bool}{c:Frame}{cs:List Frame}{U:Qa Tk}{Stop:QJ Tk}{bb:Nat}{D:TM.Spec}{sp:Bool->Bool->TM.Spec}{s:Bool}{lo:Nat}
def XH(b bb:Nat)(D:TM.Spec)(sp:Bool->Bool->TM.Spec)(s:Bool)(K:Qa Tk->Prop)(U:Qa Tk):Prop:=
 ∀v M lo,sp (if s then v else false) (if s then false else v) M->K { U with M:=U.M++M,tok:=⟨0,.wrk bb D,some (.lok ⟨b,168,sp⟩ s (.own v) lo)⟩ }
def J.nano'{g:Gr}(h:WJ Tryz.prog g 153 #[])(k:∀n:Int,J Za Stop m (aft g (.int .i64 n)) U):J Za Stop m g U:=
 J.nano h Tryz.func153 K1 K1 K1 Aw K1 k
def J.spin'{g:Gr}{n:Int}(h:WJ Tryz.prog g 150 #[.int .i64 n])(b:n<4)(k:∀r:Bool,J Za Stop m (aft g (.bool r)) U):J Za Stop m g U:=
 J.spin h Tryz.func150 K1 K1 K1 AJ b k
def TP(x:Nat->Value)(k:XH b bb D sp s (J Za Stop m (Rf (c.finish (.tuple #[])) cs)) U):J Za Stop m (Ga b m c cs x) (U.lk 1 bb D ⟨b,168,sp⟩ s .got lo):=by
 refine J.mena (x:=⟨b,168,sp⟩) rfl (pB b m c cs x) ?_;show J _ Stop m (Ss b m c cs x) _;refine J.mcalm (x:=⟨b,168,sp⟩) rfl (BI b m c cs x) Q6 ?_;show J _ Stop m (Ye b m c cs x) _;refine J.macq (x:=⟨b,168,sp⟩) rfl (BJ b m c cs x) λ v M e=>?_;show J _ Stop m (Su b m c cs x) _;refine J.mcalm (x:=⟨b,168,sp⟩) rfl (BK b m c cs x) Qg ?_;rw[BL];exact k v M lo e
def YQ(x:Nat->Value)(ws it:Value)(k:XH b bb D sp s (J Za Stop m (Rf (c.finish (.tuple #[])) cs)) U) :
  J Za Stop m (Jh b m c cs ws (.bool false) (.bool false) it (Zg 0) x) (U.lk 1 bb D ⟨b,168,sp⟩ s .idle 2):=by
 refine J.mcalm (x:=⟨b,168,sp⟩) rfl (sB b m c cs x ws it) Qg ?_;show J _ Stop m (Vt b m c cs x ws it) _;refine J.midle (x:=⟨b,168,sp⟩) rfl (Qo (SE.of_info (g:=Vt b m c cs x ws it) (Mq b m c cs x ws it))) λ cc e h=>?_;obtain rfl:cc=2:=O1
 refine .inr (.inl ⟨D1,_,Js,Mq b m c cs x ws it,?_⟩);show J _ Stop m (Vu b m c cs x ws it) _;refine J.mcalm (x:=⟨b,168,sp⟩) rfl (kJ b m c cs x ws it) Qg ?_;rw[kK];exact TP _ k
def Lz(x:Nat->Value)(k:XH b bb D sp s (J Za Stop m (Rf (c.finish (.tuple #[])) cs)) U):J Za Stop m (GV b m c cs x) (U.lk 1 bb D ⟨b,168,sp⟩ s .wai lo):=by
 refine J.nano' (vD b m c cs x) λ n=>?_;refine J.mcalm (x:=⟨b,168,sp⟩) rfl (tX b m c cs x n) Qg ?_;show J _ Stop m (HU b m c cs x n) _;refine J.mblk (x:=⟨b,168,sp⟩) rfl (t_ b m c cs x n) (tZ b m c cs x n) (λ st=>⟨_,Zw,tW b m c cs x n st⟩) Q6 (tY b m c cs x n) ?_;show J _ Stop m (OV b m c cs x n) (U.lk 1 bb D ⟨b,168,sp⟩ s .wok 2);refine J.mcalm (x:=⟨b,168,sp⟩) rfl (tq b m c cs x n) Qg ?_;show J _ Stop m (YY b m c cs x n) _;refine J.nano' (vH b m c cs x n) λ n'=>?_;refine J.mcalm (x:=⟨b,168,sp⟩) rfl (vI b m c cs x n n') Qg ?_;show J _ Stop m (Vn b m c cs x n n') _;refine J.mwok (x:=⟨b,168,sp⟩) rfl (Qo (SE.of_info (g:=Vn b m c cs x n n') (LC b m c cs x n n'))) (.inl ⟨_,_,Zw,LC b m c cs x n n',.inl rfl,?_⟩);show J _ Stop m (GW b m c cs x n n') (U.lk 1 bb D ⟨b,168,sp⟩ s .wok 2);refine J.mcalm (x:=⟨b,168,sp⟩) rfl (vJ b m c cs x n n') Qg ?_;rw[vK];generalize Nq _=e;generalize ZQ _ 2=ws;generalize(ZQ _:Nat->Value)=y;cases e with
 |true=>
  refine J.mcalm (x:=⟨b,168,sp⟩) rfl (vv b m c cs y ws) Qg ?_;show J _ Stop m (Vq b m c cs y ws) _;refine J.mwok (x:=⟨b,168,sp⟩) rfl (Qo (SE.of_info (g:=Vq b m c cs y ws) (Mo b m c cs y ws))) (.inr ⟨_,Js,Mo b m c cs y ws,?_⟩);show J _ Stop m (Yu b m c cs y ws) (U.lk 1 bb D ⟨b,168,sp⟩ s .got 2);refine J.mcalm (x:=⟨b,168,sp⟩) rfl (jD b m c cs y ws) Qg ?_;rw[jE];exact TP _ k
 |false=>
  refine J.mcalm (x:=⟨b,168,sp⟩) rfl (vu b m c cs y ws) Qg ?_;show J _ Stop m (Vp b m c cs y ws) _;refine J.mwok (x:=⟨b,168,sp⟩) rfl (Qo (SE.of_info (g:=Vp b m c cs y ws) (Mn b m c cs y ws))) (.inr ⟨_,Js,Mn b m c cs y ws,?_⟩);show J _ Stop m (Yt b m c cs y ws) (U.lk 1 bb D ⟨b,168,sp⟩ s .got 2);refine J.mcalm (x:=⟨b,168,sp⟩) rfl (jB b m c cs y ws) Qg ?_;rw[jC];exact TP _ k
def vG(x:Nat->Value)(i:Int)(k:XH b bb D sp s (J Za Stop m (Rf (c.finish (.tuple #[])) cs)) U):J Za Stop m (HO b m c cs x i) (U.lk 1 bb D ⟨b,168,sp⟩ s .idle 1):=by
 refine J.midle (x:=⟨b,168,sp⟩) rfl (Qo (SE.of_info (g:=HO b m c cs x i) (LA b m c cs x i))) λ cc e h=>?_;obtain rfl|rfl:cc=1\/cc=2:=O1
 .refine .inr (.inr ⟨rfl,_,Js,LA b m c cs x i,?_⟩);show J _ Stop m (Yb b m c cs x i) (U.lk 1 bb D ⟨b,168,sp⟩ s .wai 1);refine J.mcalm (x:=⟨b,168,sp⟩) rfl (Cb b m c cs x i) Qg ?_;rw[Cc];exact Lz _ k
 .refine .inl ⟨_,_,Zi,vE b m c cs x i,.inr rfl,?_⟩;show J _ Stop m (SX b m c cs x i) (U.lk 1 bb D ⟨b,168,sp⟩ s .idle 2);refine J.mcalm (x:=⟨b,168,sp⟩) rfl (C8 b m c cs x i) Qg ?_;show J _ Stop m (Vj b m c cs x i) _;refine J.midle (x:=⟨b,168,sp⟩) rfl (Qo (SE.of_info (g:=Vj b m c cs x i) (IX b m c cs x i))) λ cc e h=>?_;obtain rfl:cc=2:=O1
  refine .inl ⟨_,_,Zw,IX b m c cs x i,.inl rfl,?_⟩;show J _ Stop m (Vk b m c cs x i) (U.lk 1 bb D ⟨b,168,sp⟩ s .idle 2);refine J.mcalm (x:=⟨b,168,sp⟩) rfl (C9 b m c cs x i) Qg ?_;rw[Ca];exact YQ _ _ _ k
def vC(x:Nat->Value)(k:XH b bb D sp s (J Za Stop m (Rf (c.finish (.tuple #[])) cs)) U):J Za Stop m (HN b m c cs x) (U.lk 1 bb D ⟨b,168,sp⟩ s .idle 1):=by
 refine J.midle (x:=⟨b,168,sp⟩) rfl (Qo (SE.of_info (g:=HN b m c cs x) (Ly b m c cs x))) λ cc e h=>?_;obtain rfl|rfl:cc=1\/cc=2:=O1
 .refine .inr (.inr ⟨rfl,_,Js,Ly b m c cs x,?_⟩);show J _ Stop m (Vi b m c cs x) (U.lk 1 bb D ⟨b,168,sp⟩ s .wai 1);refine J.mcalm (x:=⟨b,168,sp⟩) rfl (C6 b m c cs x) Qg ?_;rw[C7];exact Lz _ k
 .refine .inl ⟨_,_,Zi,vA b m c cs x,.inr rfl,?_⟩;show J _ Stop m (SW b m c cs x) (U.lk 1 bb D ⟨b,168,sp⟩ s .idle 2);refine J.mcalm (x:=⟨b,168,sp⟩) rfl (C3 b m c cs x) Qg ?_;show J _ Stop m (Vg b m c cs x) _;refine J.midle (x:=⟨b,168,sp⟩) rfl (Qo (SE.of_info (g:=Vg b m c cs x) (IW b m c cs x))) λ cc e h=>?_;obtain rfl:cc=2:=O1
  refine .inl ⟨_,_,Zw,IW b m c cs x,.inl rfl,?_⟩;show J _ Stop m (Vh b m c cs x) (U.lk 1 bb D ⟨b,168,sp⟩ s .idle 2);refine J.mcalm (x:=⟨b,168,sp⟩) rfl (C4 b m c cs x) Qg ?_;rw[C5];exact YQ _ _ _ k
def vz(x:Nat->Value)(k:XH b bb D sp s (J Za Stop m (Rf (c.finish (.tuple #[])) cs)) U):J Za Stop m (Jh b m c cs (.int .i64 0) (.bool false) (.bool false) (.int .i64 4) (Zg 1) x) (U.lk 1 bb D ⟨b,168,sp⟩ s .idle 1):=by
 refine J.mcalm (x:=⟨b,168,sp⟩) rfl (vB b m c cs x) Qg ?_;exact vC x k
def Kj(x:Nat->Value)(i e:Int)(z:i<4)(F:∀v,v=0\/v=1->True)(h:XF (ZQ (Qi (Tryz.prog) 168 m 4 (GP b m c cs x i)) 5)=e)
  (B:∀y,J Za Stop m (Jh b m c cs (.int .i64 0) (.bool false) (.bool false) (.int .i64 e) (Zg 1) y) (U.lk 1 bb D ⟨b,168,sp⟩ s .idle 1))
  (k:XH b bb D sp s (J Za Stop m (Rf (c.finish (.tuple #[])) cs)) U):J Za Stop m (Jh b m c cs (.int .i64 0) (.bool false) (.bool false) (.int .i64 i) (Zg 1) x) (U.lk 1 bb D ⟨b,168,sp⟩ s .idle 1):=by
 refine J.mcalm (x:=⟨b,168,sp⟩) rfl (tV b m c cs x i) Qg ?_;show J _ Stop m (G_ b m c cs x i) _;refine J.spin' (tU b m c cs x i) z λ r=>?_;cases r with
 |false=>
  refine J.mcalm (x:=⟨b,168,sp⟩) rfl (vF b m c cs x i) Qg ?_;exact vG x i k
 |true=>
  refine J.mcalm (x:=⟨b,168,sp⟩) rfl (vQ b m c cs x i) Qg ?_;show J _ Stop m (HQ b m c cs x i) _;refine J.midle (x:=⟨b,168,sp⟩) rfl (Qo (SE.of_info (g:=HQ b m c cs x i) (Mi b m c cs x i))) λ cc w E=>?_;obtain rfl|rfl:cc=1\/cc=2:=O1
  .refine .inl ⟨_,_,Zw,Mi b m c cs x i,.inl rfl,?_⟩;show J _ Stop m (GP b m c cs x i) (U.lk 1 bb D ⟨b,168,sp⟩ s .idle 1);refine J.mcalm (x:=⟨b,168,sp⟩) rfl (Cr b m c cs x i) Qg ?_;rw[BT,h];exact B _
  .refine .inl ⟨_,_,Zw,vP b m c cs x i,.inl rfl,?_⟩;show J _ Stop m (V6 b m c cs x i) (U.lk 1 bb D ⟨b,168,sp⟩ s .idle 2);refine J.mcalm (x:=⟨b,168,sp⟩) rfl (Cp b m c cs x i) Qg ?_;rw[Cq];exact YQ _ _ _ k
def tN(x:Nat->Value)(k:XH b bb D sp s (J Za Stop m (Rf (c.finish (.tuple #[])) cs)) U):J Za Stop m (Jh b m c cs (.int .i64 0) (.bool false) (.bool false) (.int .i64 0) (Zg 1) x) (U.lk 1 bb D ⟨b,168,sp⟩ s .idle 1):=
 Kj x 0 1 D1 (λ _ _=>trivial) K1 (λ y=>Kj y 1 2 D1 (λ _ _=>trivial) K1 (λ y=>Kj y 2 3 D1 (λ _ _=>trivial) K1 (λ y=>Kj y 3 4 D1 (λ _ _=>trivial) K1 (λ y=>vz y k) k) k) k) k
def AI(k:XH b bb D sp s (J Za Stop m (Rf (c.finish (.tuple #[])) cs)) U):J Za Stop m (Rf (Frame.enter Tryz.prog 140 #[.pointer (some ⟨b,0,none⟩)] .normal) (c::cs)) (U.lk 1 bb D ⟨b,168,sp⟩ s .idle 1):=by
 show J _ Stop m (OE b m c cs) _;refine J.mcalm (x:=⟨b,168,sp⟩) rfl (vL b m c cs) Qg ?_;show J _ Stop m (HP b m c cs) _;refine J.midle (x:=⟨b,168,sp⟩) rfl (Qo (SE.of_info (g:=HP b m c cs) (LD b m c cs))) λ cc e h=>?_;obtain rfl|rfl:cc=1\/cc=2:=O1
 .refine .inl ⟨_,_,Zw,LD b m c cs,.inl rfl,?_⟩;show J _ Stop m (P_ b m c cs) (U.lk 1 bb D ⟨b,168,sp⟩ s .idle 1);refine J.mcalm (x:=⟨b,168,sp⟩) rfl (Ci b m c cs) Qg ?_;rw[Cj];exact tN _ k
 .refine .inl ⟨_,_,Zw,vM b m c cs,.inl rfl,?_⟩;show J _ Stop m (KZ b m c cs) (U.lk 1 bb D ⟨b,168,sp⟩ s .idle 2);refine J.mcalm (x:=⟨b,168,sp⟩) rfl (Cg b m c cs) Qg ?_;rw[Ch];exact YQ _ _ _ k
end
def C2{b bb:Nat}{D:TM.Spec}{sp:Bool->Bool->TM.Spec}{s:Bool}{lo:Nat}{U:Qa Tk}{Q:Value->Qa Tk->Prop}(z:U.tok=⟨0,.wrk bb D,some (.lok ⟨b,168,sp⟩ s .idle lo)⟩)
  (w:XH b bb D sp s (Q (.tuple #[])) U):Qb Za 92 #[.pointer (some ⟨b,0,none⟩)] Q U:=by
 intro Stop m c cs k;show J _ Stop m (SR b m c cs) U;refine J.mcalm z (Bh b m c cs) Qg ?_;show J _ Stop m (Y8 b m c cs) U;refine J.mdis z (Bi b m c cs) ?_;show J _ Stop m (SS b m c cs) (U.lk 1 bb D ⟨b,168,sp⟩ s .idle lo);refine J.mcalm (x:=⟨b,168,sp⟩) rfl (Bj b m c cs) Qg ?_;show J _ Stop m (HC b m c cs) _
 have e:∀cc,J Za Stop m (ST b m c cs) (U.lk 1 bb D ⟨b,168,sp⟩ s .got cc):=by
  intro cc;refine J.mcalm (x:=⟨b,168,sp⟩) rfl (Bm b m c cs) Qg ?_;show J _ Stop m (Y9 b m c cs) _;refine J.mena (x:=⟨b,168,sp⟩) rfl (Bn b m c cs) ?_;show J _ Stop m (SU b m c cs) _;refine J.mcalm (x:=⟨b,168,sp⟩) rfl (Bo b m c cs) Q6 ?_;show J _ Stop m (Ya b m c cs) _;refine J.macq (x:=⟨b,168,sp⟩) rfl (Bp b m c cs) λ v M h=>?_;show J _ Stop m (SV b m c cs) _;refine J.mcalm (x:=⟨b,168,sp⟩) rfl (Bq b m c cs) Qg ?_;rw[Br];exact k _ _ (w v M cc h)
 refine J.midle (x:=⟨b,168,sp⟩) rfl (Qo (SE.of_info (g:=HC b m c cs) (Ty b m c cs))) λ cc B E=>?_;obtain rfl|rfl|rfl:cc=0\/cc=1\/cc=2:=O1
 .exact .inr (.inl ⟨D1,_,Js,Ty b m c cs,e 0⟩)
 .refine .inl ⟨_,_,Zi,Bl b m c cs,.inr rfl,?_⟩;show J _ Stop m (V5 b m c cs) (U.lk 1 bb D ⟨b,168,sp⟩ s .idle 1);refine J.mcalm (x:=⟨b,168,sp⟩) rfl (Ck b m c cs) Qg ?_;rw[Cl];refine AI λ v M lo' h=>?_;refine J.mcalm (x:=⟨b,168,sp⟩) rfl (Cm b m c cs) Qg ?_;rw[Co];exact k _ _ (w v M lo' h)
 .exact .inr (.inl ⟨D1,_,Js,Ty b m c cs,e 2⟩)
def RB{b bb:Nat}{D:TM.Spec}{sp:Bool->Bool->TM.Spec}{s v:Bool}{lo:Nat}{U:Qa Tk}{M₁ M₂:List Qw}{Q:Qa Tk->Prop}(e:U.tok=⟨0,.wrk bb D,some (.lok ⟨b,168,sp⟩ s (.own v) lo)⟩)(B:U.M=M₁++M₂)
  (z:sp (if s then v else true) (if s then true else v) M₁) (w:Q { U with M:=M₂,tok:=⟨0,.wrk bb D,some (.lok ⟨b,168,sp⟩ s .fin lo)⟩ }):XW Za 93 #[.pointer (some ⟨b,0,none⟩)] Q U:=by
 intro Stop m c cs h k;obtain⟨fn,T,todo,ds,mode,kd,ro⟩:=c;simp only at h;subst h;show J _ Stop m (OF b m fn T todo ds kd ro cs) U;refine J.mcalm e (vS b m fn T todo ds kd ro cs) Qg ?_;show J _ Stop m (HJ b m fn T todo ds kd ro cs) U
 have next:∀a,J Za Stop m (Vo b m fn T todo ds kd ro cs (Zg a)) U:=by
  intro a;refine J.mcalm e (vr b m fn T todo ds kd ro cs (Zg a)) Q6 ?_;show J _ Stop m (YZ b m fn T todo ds kd ro cs (Zg a)) U;refine J.mrel e B z (vW b m fn T todo ds kd ro cs (Zg a)) ?_;show J _ Stop m (OG b m fn T todo ds kd ro cs (Zg a)) _;refine J.mcalm (x:=⟨b,168,sp⟩) rfl (vX b m fn T todo ds kd ro cs (Zg a)) Qg ?_;show J _ Stop m (Y_ b m fn T todo ds kd ro cs (Zg a)) _;refine J.mdis (x:=⟨b,168,sp⟩) rfl (vj b m fn T todo ds kd ro cs (Zg a)) ?_;show J _ Stop m (OH b m fn T todo ds kd ro cs (Zg a)) (Qa.lk { U with M:=M₂ } 1 bb D ⟨b,168,sp⟩ s .rls lo);refine J.mcalm (x:=⟨b,168,sp⟩) rfl (vk b m fn T todo ds kd ro cs (Zg a)) Qg ?_;show J _ Stop m (HK b m fn T todo ds kd ro cs (Zg a)) _;refine J.mrls (x:=⟨b,168,sp⟩) rfl (Qo (SE.of_info (g:=HK b m fn T todo ds kd ro cs (Zg a)) (Mm b m fn T todo ds kd ro cs (Zg a)))) ⟨_,Q6,Mm b m fn T todo ds kd ro cs (Zg a),?_⟩ ⟨_,Q6,vo b m fn T todo ds kd ro cs (Zg a),?_⟩
  .show J _ Stop m (OI b m fn T todo ds kd ro cs (Zg a)) (Qa.lk { U with M:=M₂ } 1 bb D ⟨b,168,sp⟩ s .fin lo);refine J.mcalm (x:=⟨b,168,sp⟩) rfl (vp b m fn T todo ds kd ro cs (Zg a)) Qg ?_;show J _ Stop m (Yr b m fn T todo ds kd ro cs (Zg a)) _;refine J.mena (x:=⟨b,168,sp⟩) rfl (js b m fn T todo ds kd ro cs (Zg a)) ?_;show J _ Stop m (S_ b m fn T todo ds kd ro cs (Zg a)) _;refine J.mcalm (x:=⟨b,168,sp⟩) rfl (jt b m fn T todo ds kd ro cs (Zg a)) Qg ?_;rw[ju];exact k _ w
  .show J _ Stop m (OJ b m fn T todo ds kd ro cs (Zg a)) (Qa.lk { U with M:=M₂ } 1 bb D ⟨b,168,sp⟩ s .unl lo);refine J.mcalm (x:=⟨b,168,sp⟩) rfl (vq b m fn T todo ds kd ro cs (Zg a)) Qg ?_;show J _ Stop m (V8 b m fn T todo ds kd ro cs (Zg a)) _;refine J.munl (x:=⟨b,168,sp⟩) rfl (Qo (SE.of_info (g:=V8 b m fn T todo ds kd ro cs (Zg a)) (IZ b m fn T todo ds kd ro cs (Zg a)))) ⟨_,Js,IZ b m fn T todo ds kd ro cs (Zg a),?_⟩;show J _ Stop m (U0 b m fn T todo ds kd ro cs (Zg a)) (Qa.lk { U with M:=M₂ } 1 bb D ⟨b,168,sp⟩ s .unl2 lo);refine J.mcalm (x:=⟨b,168,sp⟩) rfl (jv b m fn T todo ds kd ro cs (Zg a)) Qg ?_;show J _ Stop m (GQ b m fn T todo ds kd ro cs (Zg a)) _;refine J.munl2 (x:=⟨b,168,sp⟩) rfl (Qo (SE.of_info (g:=GQ b m fn T todo ds kd ro cs (Zg a)) (I_ b m fn T todo ds kd ro cs (Zg a)))) (jw b m fn T todo ds kd ro cs (Zg a)) ⟨_,Q6,I_ b m fn T todo ds kd ro cs (Zg a),?_⟩;show J _ Stop m (Uf b m fn T todo ds kd ro cs (Zg a)) (Qa.lk { U with M:=M₂ } 1 bb D ⟨b,168,sp⟩ s .fin lo);refine J.mcalm (x:=⟨b,168,sp⟩) rfl (jx b m fn T todo ds kd ro cs (Zg a)) Qg ?_;show J _ Stop m (Ys b m fn T todo ds kd ro cs (Zg a)) _;refine J.mena (x:=⟨b,168,sp⟩) rfl (jy b m fn T todo ds kd ro cs (Zg a)) ?_;show J _ Stop m (Ug b m fn T todo ds kd ro cs (Zg a)) _;refine J.mcalm (x:=⟨b,168,sp⟩) rfl (jz b m fn T todo ds kd ro cs (Zg a)) Qg ?_;rw[jA];exact k _ w
 refine J.mown e (Qo (SE.of_info (g:=HJ b m fn T todo ds kd ro cs) (Mk b m fn T todo ds kd ro cs))) λ a E=>?_;rcases E with rfl|rfl
 .refine⟨_,_,Zw,Mk b m fn T todo ds kd ro cs,.inl rfl,?_⟩;show J _ Stop m (KH b m fn T todo ds kd ro cs) U;rw[jq];exact next 1
 .refine⟨_,_,Zw,vV b m fn T todo ds kd ro cs,.inl rfl,?_⟩;show J _ Stop m (Ml b m fn T todo ds kd ro cs) U;rw[jr];exact next 9
end Go.Proofs

