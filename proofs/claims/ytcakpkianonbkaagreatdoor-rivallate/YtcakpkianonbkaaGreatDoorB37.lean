/- Lemmas. No conditions. -/
import Derived.Test.YtcakpkianonbkaaGreatDoorB18
import Derived.Test.YtcakpkianonbkaaGreatDoorB34
set_option linter.all false
set_option maxRecDepth 100000
namespace Go.Proofs
open Go.TM
abbrev Q8:=Zb Tryz.prog 175 6
def Q4g:Extern.find Tryz.f153=some Extern.OsHooks.nano:=by kernel_rfl
def Q4u:Extern.find Tryz.f150=some Extern.Sync.canSpin:=by kernel_rfl
section
variable{b:Nat}{m:Bool}{c:Frame}{cs:List Frame}{U:Qa Tk}{Stop:Stp Tk}{bb:Nat}{D:TM.Spec}{sp:Bool->Bool->TM.Spec}{s:Bool}{lo:Nat}
def LkQ(b bb:Nat)(D:TM.Spec)(sp:Bool->Bool->TM.Spec)(s:Bool)(K:Qa Tk->Prop)(U:Qa Tk):Prop:=
 ∀v M lo,sp (if s then v else false) (if s then false else v) M->K { U with M:=U.M++M,tok:=⟨0,.wrk bb D,some (.lok ⟨b,168,sp⟩ s (.own v) lo)⟩ }
def J.nano'{g:Goroutine}(h:Qjv Tryz.prog g 153 #[])(k:∀n:Int,J Q8 Stop m (aft g (.int .i64 n)) U):J Q8 Stop m g U:=
 J.nano h Tryz.func153 (by kernel_rfl) (by kernel_rfl) (by kernel_rfl) Q4g (by kernel_rfl) k
def J.spin'{g:Goroutine}{n:Int}(h:Qjv Tryz.prog g 150 #[.int .i64 n])(h4:n<4)(k:∀r:Bool,J Q8 Stop m (aft g (.bool r)) U):J Q8 Stop m g U:=
 J.spin h Tryz.func150 (by kernel_rfl) (by kernel_rfl) (by kernel_rfl) Q4u h4 k
def Qmz(x:Nat->Value)(k:LkQ b bb D sp s (J Q8 Stop m (Rf (c.finish (.tuple #[])) cs)) U):J Q8 Stop m (Qgb b m c cs x) (U.lk 1 bb D ⟨b,168,sp⟩ s .got lo):=by
 refine J.mena (x:=⟨b,168,sp⟩) rfl (Zg9 b m c cs x) ?_;show J _ Stop m (Qr6 b m c cs x) _;refine J.mcalm (x:=⟨b,168,sp⟩) rfl (Q7t b m c cs x) Q4 ?_;show J _ Stop m (Qkr b m c cs x) _;refine J.macq (x:=⟨b,168,sp⟩) rfl (Q7u b m c cs x) λ v M hx=>?_;show J _ Stop m (Qr7 b m c cs x) _;refine J.mcalm (x:=⟨b,168,sp⟩) rfl (Q7v b m c cs x) Qg ?_;rw[Q7w];exact k v M lo hx
def Ql6(x:Nat->Value)(ws it:Value)(k:LkQ b bb D sp s (J Q8 Stop m (Rf (c.finish (.tuple #[])) cs)) U) :
  J Q8 Stop m (Jf b m c cs ws (.bool false) (.bool false) it (Ze 0) x) (U.lk 1 bb D ⟨b,168,sp⟩ s .idle 2):=by
 refine J.mcalm (x:=⟨b,168,sp⟩) rfl (Zm4 b m c cs x ws it) Qg ?_;show J _ Stop m (Ql4 b m c cs x ws it) _;refine J.midle (x:=⟨b,168,sp⟩) rfl (Qn (SE.of_info (g:=Ql4 b m c cs x ws it) (Qy0 b m c cs x ws it))) λ cc h1 h2=>?_;obtain rfl:cc=2:=by omega
 refine .inr (.inl ⟨by decide,_,Jr,Qy0 b m c cs x ws it,?_⟩);show J _ Stop m (Ql5 b m c cs x ws it) _;refine J.mcalm (x:=⟨b,168,sp⟩) rfl (Zis b m c cs x ws it) Qg ?_;rw[Zit];exact Qmz _ k
def Qyk(x:Nat->Value)(k:LkQ b bb D sp s (J Q8 Stop m (Rf (c.finish (.tuple #[])) cs)) U):J Q8 Stop m (Qir b m c cs x) (U.lk 1 bb D ⟨b,168,sp⟩ s .wai lo):=by
 refine J.nano' (Zhh b m c cs x) λ n=>?_;refine J.mcalm (x:=⟨b,168,sp⟩) rfl (Zmm b m c cs x n) Qg ?_;show J _ Stop m (Qhv b m c cs x n) _;refine J.mblk (x:=⟨b,168,sp⟩) rfl (Zmp b m c cs x n) (Zmo b m c cs x n) (λ st=>⟨_,Zv,Zml b m c cs x n st⟩) Q4 (Zmn b m c cs x n) ?_;show J _ Stop m (Q8s b m c cs x n) (U.lk 1 bb D ⟨b,168,sp⟩ s .wok 2);refine J.mcalm (x:=⟨b,168,sp⟩) rfl (Zmq b m c cs x n) Qg ?_;show J _ Stop m (Qq8 b m c cs x n) _;refine J.nano' (Zhl b m c cs x n) λ n'=>?_;refine J.mcalm (x:=⟨b,168,sp⟩) rfl (Zhm b m c cs x n n') Qg ?_;show J _ Stop m (Qk2 b m c cs x n n') _;refine J.mwok (x:=⟨b,168,sp⟩) rfl (Qn (SE.of_info (g:=Qk2 b m c cs x n n') (Qyn b m c cs x n n'))) (.inl ⟨_,_,Zv,Qyn b m c cs x n n',.inl rfl,?_⟩);show J _ Stop m (Qis b m c cs x n n') (U.lk 1 bb D ⟨b,168,sp⟩ s .wok 2);refine J.mcalm (x:=⟨b,168,sp⟩) rfl (Zhn b m c cs x n n') Qg ?_;rw[Zho];generalize Zm9 _=sv;generalize tmF _ 2=ws;generalize(tmF _:Nat->Value)=y;cases sv with
 |true=>
  refine J.mcalm (x:=⟨b,168,sp⟩) rfl (Zia b m c cs y ws) Qg ?_;show J _ Stop m (Qk9 b m c cs y ws) _;refine J.mwok (x:=⟨b,168,sp⟩) rfl (Qn (SE.of_info (g:=Qk9 b m c cs y ws) (Qyy b m c cs y ws))) (.inr ⟨_,Jr,Qyy b m c cs y ws,?_⟩);show J _ Stop m (Qla b m c cs y ws) (U.lk 1 bb D ⟨b,168,sp⟩ s .got 2);refine J.mcalm (x:=⟨b,168,sp⟩) rfl (Q9t b m c cs y ws) Qg ?_;rw[Q9u];exact Qmz _ k
 |false=>
  refine J.mcalm (x:=⟨b,168,sp⟩) rfl (Zh9 b m c cs y ws) Qg ?_;show J _ Stop m (Qk7 b m c cs y ws) _;refine J.mwok (x:=⟨b,168,sp⟩) rfl (Qn (SE.of_info (g:=Qk7 b m c cs y ws) (Qyx b m c cs y ws))) (.inr ⟨_,Jr,Qyx b m c cs y ws,?_⟩);show J _ Stop m (Qk8 b m c cs y ws) (U.lk 1 bb D ⟨b,168,sp⟩ s .got 2);refine J.mcalm (x:=⟨b,168,sp⟩) rfl (Q9r b m c cs y ws) Qg ?_;rw[Q9s];exact Qmz _ k
def Zhk(x:Nat->Value)(i:Int)(k:LkQ b bb D sp s (J Q8 Stop m (Rf (c.finish (.tuple #[])) cs)) U):J Q8 Stop m (Qeg b m c cs x i) (U.lk 1 bb D ⟨b,168,sp⟩ s .idle 1):=by
 refine J.midle (x:=⟨b,168,sp⟩) rfl (Qn (SE.of_info (g:=Qeg b m c cs x i) (Qyl b m c cs x i))) λ cc h1 h2=>?_;obtain rfl|rfl:cc=1\/cc=2:=by omega
 .refine .inr (.inr ⟨rfl,_,Jr,Qyl b m c cs x i,?_⟩);show J _ Stop m (Qk1 b m c cs x i) (U.lk 1 bb D ⟨b,168,sp⟩ s .wai 1);refine J.mcalm (x:=⟨b,168,sp⟩) rfl (Q8n b m c cs x i) Qg ?_;rw[Q8o];exact Qyk _ k
 .refine .inl ⟨_,_,Zi,Zhi b m c cs x i,.inr rfl,?_⟩;show J _ Stop m (Qs6 b m c cs x i) (U.lk 1 bb D ⟨b,168,sp⟩ s .idle 2);refine J.mcalm (x:=⟨b,168,sp⟩) rfl (Q8k b m c cs x i) Qg ?_;show J _ Stop m (Qht b m c cs x i) _;refine J.midle (x:=⟨b,168,sp⟩) rfl (Qn (SE.of_info (g:=Qht b m c cs x i) (Qs7 b m c cs x i))) λ cc h1 h2=>?_;obtain rfl:cc=2:=by omega
  refine .inl ⟨_,_,Zv,Qs7 b m c cs x i,.inl rfl,?_⟩;show J _ Stop m (Qhu b m c cs x i) (U.lk 1 bb D ⟨b,168,sp⟩ s .idle 2);refine J.mcalm (x:=⟨b,168,sp⟩) rfl (Q8l b m c cs x i) Qg ?_;rw[Q8m];exact Ql6 _ _ _ k
def Zhg(x:Nat->Value)(k:LkQ b bb D sp s (J Q8 Stop m (Rf (c.finish (.tuple #[])) cs)) U):J Q8 Stop m (Qef b m c cs x) (U.lk 1 bb D ⟨b,168,sp⟩ s .idle 1):=by
 refine J.midle (x:=⟨b,168,sp⟩) rfl (Qn (SE.of_info (g:=Qef b m c cs x) (Qyj b m c cs x))) λ cc h1 h2=>?_;obtain rfl|rfl:cc=1\/cc=2:=by omega
 .refine .inr (.inr ⟨rfl,_,Jr,Qyj b m c cs x,?_⟩);show J _ Stop m (Qhs b m c cs x) (U.lk 1 bb D ⟨b,168,sp⟩ s .wai 1);refine J.mcalm (x:=⟨b,168,sp⟩) rfl (Q8i b m c cs x) Qg ?_;rw[Q8j];exact Qyk _ k
 .refine .inl ⟨_,_,Zi,Zhe b m c cs x,.inr rfl,?_⟩;show J _ Stop m (Qs4 b m c cs x) (U.lk 1 bb D ⟨b,168,sp⟩ s .idle 2);refine J.mcalm (x:=⟨b,168,sp⟩) rfl (Q8f b m c cs x) Qg ?_;show J _ Stop m (Qhq b m c cs x) _;refine J.midle (x:=⟨b,168,sp⟩) rfl (Qn (SE.of_info (g:=Qhq b m c cs x) (Qs5 b m c cs x))) λ cc h1 h2=>?_;obtain rfl:cc=2:=by omega
  refine .inl ⟨_,_,Zv,Qs5 b m c cs x,.inl rfl,?_⟩;show J _ Stop m (Qhr b m c cs x) (U.lk 1 bb D ⟨b,168,sp⟩ s .idle 2);refine J.mcalm (x:=⟨b,168,sp⟩) rfl (Q8g b m c cs x) Qg ?_;rw[Q8h];exact Ql6 _ _ _ k
def Zhd(x:Nat->Value)(k:LkQ b bb D sp s (J Q8 Stop m (Rf (c.finish (.tuple #[])) cs)) U):J Q8 Stop m (Jf b m c cs (.int .i64 0) (.bool false) (.bool false) (.int .i64 4) (Ze 1) x) (U.lk 1 bb D ⟨b,168,sp⟩ s .idle 1):=by
 refine J.mcalm (x:=⟨b,168,sp⟩) rfl (Zhf b m c cs x) Qg ?_;exact Zhg x k
def Qee(x:Nat->Value)(i i':Int)(h4:i<4)(hi:∀v,v=0\/v=1->True)(h1:intOf (tmF (Qj (Tryz.prog) 168 m 4 (Qfk b m c cs x i)) 5)=i')
  (ih:∀y,J Q8 Stop m (Jf b m c cs (.int .i64 0) (.bool false) (.bool false) (.int .i64 i') (Ze 1) y) (U.lk 1 bb D ⟨b,168,sp⟩ s .idle 1))
  (k:LkQ b bb D sp s (J Q8 Stop m (Rf (c.finish (.tuple #[])) cs)) U):J Q8 Stop m (Jf b m c cs (.int .i64 0) (.bool false) (.bool false) (.int .i64 i) (Ze 1) x) (U.lk 1 bb D ⟨b,168,sp⟩ s .idle 1):=by
 refine J.mcalm (x:=⟨b,168,sp⟩) rfl (Zmj b m c cs x i) Qg ?_;show J _ Stop m (Qm2 b m c cs x i) _;refine J.spin' (Zmi b m c cs x i) h4 λ r=>?_;cases r with
 |false=>
  refine J.mcalm (x:=⟨b,168,sp⟩) rfl (Zhj b m c cs x i) Qg ?_;exact Zhk x i k
 |true=>
  refine J.mcalm (x:=⟨b,168,sp⟩) rfl (Zhu b m c cs x i) Qg ?_;show J _ Stop m (Qej b m c cs x i) _;refine J.midle (x:=⟨b,168,sp⟩) rfl (Qn (SE.of_info (g:=Qej b m c cs x i) (Qys b m c cs x i))) λ cc h1' h2=>?_;obtain rfl|rfl:cc=1\/cc=2:=by omega
  .refine .inl ⟨_,_,Zv,Qys b m c cs x i,.inl rfl,?_⟩;show J _ Stop m (Qfk b m c cs x i) (U.lk 1 bb D ⟨b,168,sp⟩ s .idle 1);refine J.mcalm (x:=⟨b,168,sp⟩) rfl (Q83 b m c cs x i) Qg ?_;rw[Q84,h1];exact ih _
  .refine .inl ⟨_,_,Zv,Zht b m c cs x i,.inl rfl,?_⟩;show J _ Stop m (Qhy b m c cs x i) (U.lk 1 bb D ⟨b,168,sp⟩ s .idle 2);refine J.mcalm (x:=⟨b,168,sp⟩) rfl (Q81 b m c cs x i) Qg ?_;rw[Q82];exact Ql6 _ _ _ k
def Zmb(x:Nat->Value)(k:LkQ b bb D sp s (J Q8 Stop m (Rf (c.finish (.tuple #[])) cs)) U):J Q8 Stop m (Jf b m c cs (.int .i64 0) (.bool false) (.bool false) (.int .i64 0) (Ze 1) x) (U.lk 1 bb D ⟨b,168,sp⟩ s .idle 1):=
 Qee x 0 1 (by decide) (λ _ _=>trivial) (by kernel_rfl) (λ y=>Qee y 1 2 (by decide) (λ _ _=>trivial) (by kernel_rfl) (λ y=>Qee y 2 3 (by decide) (λ _ _=>trivial) (by kernel_rfl) (λ y=>Qee y 3 4 (by decide) (λ _ _=>trivial) (by kernel_rfl) (λ y=>Zhd y k) k) k) k) k
def Q4t(k:LkQ b bb D sp s (J Q8 Stop m (Rf (c.finish (.tuple #[])) cs)) U):J Q8 Stop m (Rf (Frame.enter Tryz.prog 140 #[.pointer (some ⟨b,0,none⟩)] .normal) (c::cs)) (U.lk 1 bb D ⟨b,168,sp⟩ s .idle 1):=by
 show J _ Stop m (Q0l b m c cs) _;refine J.mcalm (x:=⟨b,168,sp⟩) rfl (Zhp b m c cs) Qg ?_;show J _ Stop m (Qeh b m c cs) _;refine J.midle (x:=⟨b,168,sp⟩) rfl (Qn (SE.of_info (g:=Qeh b m c cs) (Qyo b m c cs))) λ cc h1 h2=>?_;obtain rfl|rfl:cc=1\/cc=2:=by omega
 .refine .inl ⟨_,_,Zv,Qyo b m c cs,.inl rfl,?_⟩;show J _ Stop m (Qfi b m c cs) (U.lk 1 bb D ⟨b,168,sp⟩ s .idle 1);refine J.mcalm (x:=⟨b,168,sp⟩) rfl (Q8v b m c cs) Qg ?_;rw[Q8w];exact Zmb _ k
 .refine .inl ⟨_,_,Zv,Zhq b m c cs,.inl rfl,?_⟩;show J _ Stop m (Qit b m c cs) (U.lk 1 bb D ⟨b,168,sp⟩ s .idle 2);refine J.mcalm (x:=⟨b,168,sp⟩) rfl (Q8t b m c cs) Qg ?_;rw[Q8u];exact Ql6 _ _ _ k
end
def Q8e{b bb:Nat}{D:TM.Spec}{sp:Bool->Bool->TM.Spec}{s:Bool}{lo:Nat}{U:Qa Tk}{Q:Value->Qa Tk->Prop}(ht:U.tok=⟨0,.wrk bb D,some (.lok ⟨b,168,sp⟩ s .idle lo)⟩)
  (hq:LkQ b bb D sp s (Q (.tuple #[])) U):Qb Q8 92 #[.pointer (some ⟨b,0,none⟩)] Q U:=by
 intro Stop m c cs k;show J _ Stop m (Qsz b m c cs) U;refine J.mcalm ht (Q74 b m c cs) Qg ?_;show J _ Stop m (Qky b m c cs) U;refine J.mdis ht (Q75 b m c cs) ?_;show J _ Stop m (Qs0 b m c cs) (U.lk 1 bb D ⟨b,168,sp⟩ s .idle lo);refine J.mcalm (x:=⟨b,168,sp⟩) rfl (Q76 b m c cs) Qg ?_;show J _ Stop m (Qb9 b m c cs) _
 have fast:∀cc,J Q8 Stop m (Qs1 b m c cs) (U.lk 1 bb D ⟨b,168,sp⟩ s .got cc):=by
  intro cc;refine J.mcalm (x:=⟨b,168,sp⟩) rfl (Q78 b m c cs) Qg ?_;show J _ Stop m (Qkz b m c cs) _;refine J.mena (x:=⟨b,168,sp⟩) rfl (Q79 b m c cs) ?_;show J _ Stop m (Qs2 b m c cs) _;refine J.mcalm (x:=⟨b,168,sp⟩) rfl (Q8a b m c cs) Q4 ?_;show J _ Stop m (Qk0 b m c cs) _;refine J.macq (x:=⟨b,168,sp⟩) rfl (Q8b b m c cs) λ v M hx=>?_;show J _ Stop m (Qs3 b m c cs) _;refine J.mcalm (x:=⟨b,168,sp⟩) rfl (Q8c b m c cs) Qg ?_;rw[Q8d];exact k _ _ (hq v M cc hx)
 refine J.midle (x:=⟨b,168,sp⟩) rfl (Qn (SE.of_info (g:=Qb9 b m c cs) (Qj6 b m c cs))) λ cc h1 h2=>?_;obtain rfl|rfl|rfl:cc=0\/cc=1\/cc=2:=by omega
 .exact .inr (.inl ⟨by decide,_,Jr,Qj6 b m c cs,fast 0⟩)
 .refine .inl ⟨_,_,Zi,Q77 b m c cs,.inr rfl,?_⟩;show J _ Stop m (Qhx b m c cs) (U.lk 1 bb D ⟨b,168,sp⟩ s .idle 1);refine J.mcalm (x:=⟨b,168,sp⟩) rfl (Q8x b m c cs) Qg ?_;rw[Q8y];refine Q4t λ v M lo' hx=>?_;refine J.mcalm (x:=⟨b,168,sp⟩) rfl (Q8z b m c cs) Qg ?_;rw[Q80];exact k _ _ (hq v M lo' hx)
 .exact .inr (.inl ⟨by decide,_,Jr,Qj6 b m c cs,fast 2⟩)
def Q0u{b bb:Nat}{D:TM.Spec}{sp:Bool->Bool->TM.Spec}{s v:Bool}{lo:Nat}{U:Qa Tk}{M₁ M₂:List Qv}{Q:Qa Tk->Prop}(ht:U.tok=⟨0,.wrk bb D,some (.lok ⟨b,168,sp⟩ s (.own v) lo)⟩)(hM:U.M=M₁++M₂)
  (hD:sp (if s then v else true) (if s then true else v) M₁) (hq:Q { U with M:=M₂,tok:=⟨0,.wrk bb D,some (.lok ⟨b,168,sp⟩ s .fin lo)⟩ }):Qwc Q8 93 #[.pointer (some ⟨b,0,none⟩)] Q U:=by
 intro Stop m c cs hc k;obtain⟨fn,T,todo,ds,mode,kd,ro⟩:=c;simp only at hc;subst hc;show J _ Stop m (Q0p b m fn T todo ds kd ro cs) U;refine J.mcalm ht (Zhw b m fn T todo ds kd ro cs) Qg ?_;show J _ Stop m (Qey b m fn T todo ds kd ro cs) U
 have next:∀a,J Q8 Stop m (Qk6 b m fn T todo ds kd ro cs (Ze a)) U:=by
  intro a;refine J.mcalm ht (Zh8 b m fn T todo ds kd ro cs (Ze a)) Q4 ?_;show J _ Stop m (Qq9 b m fn T todo ds kd ro cs (Ze a)) U;refine J.mrel ht hM hD (Zh1 b m fn T todo ds kd ro cs (Ze a)) ?_;show J _ Stop m (Q0q b m fn T todo ds kd ro cs (Ze a)) _;refine J.mcalm (x:=⟨b,168,sp⟩) rfl (Zh2 b m fn T todo ds kd ro cs (Ze a)) Qg ?_;show J _ Stop m (Qra b m fn T todo ds kd ro cs (Ze a)) _;refine J.mdis (x:=⟨b,168,sp⟩) rfl (Zh3 b m fn T todo ds kd ro cs (Ze a)) ?_;show J _ Stop m (Q0r b m fn T todo ds kd ro cs (Ze a)) (Qa.lk { U with M:=M₂ } 1 bb D ⟨b,168,sp⟩ s .rls lo);refine J.mcalm (x:=⟨b,168,sp⟩) rfl (Zh4 b m fn T todo ds kd ro cs (Ze a)) Qg ?_;show J _ Stop m (Qez b m fn T todo ds kd ro cs (Ze a)) _;refine J.mrls (x:=⟨b,168,sp⟩) rfl (Qn (SE.of_info (g:=Qez b m fn T todo ds kd ro cs (Ze a)) (Qyw b m fn T todo ds kd ro cs (Ze a)))) ⟨_,Q4,Qyw b m fn T todo ds kd ro cs (Ze a),?_⟩ ⟨_,Q4,Zh5 b m fn T todo ds kd ro cs (Ze a),?_⟩
  .show J _ Stop m (Q0s b m fn T todo ds kd ro cs (Ze a)) (Qa.lk { U with M:=M₂ } 1 bb D ⟨b,168,sp⟩ s .fin lo);refine J.mcalm (x:=⟨b,168,sp⟩) rfl (Zh6 b m fn T todo ds kd ro cs (Ze a)) Qg ?_;show J _ Stop m (Qk4 b m fn T todo ds kd ro cs (Ze a)) _;refine J.mena (x:=⟨b,168,sp⟩) rfl (Q9i b m fn T todo ds kd ro cs (Ze a)) ?_;show J _ Stop m (Qtf b m fn T todo ds kd ro cs (Ze a)) _;refine J.mcalm (x:=⟨b,168,sp⟩) rfl (Q9j b m fn T todo ds kd ro cs (Ze a)) Qg ?_;rw[Q9k];exact k _ hq
  .show J _ Stop m (Q0t b m fn T todo ds kd ro cs (Ze a)) (Qa.lk { U with M:=M₂ } 1 bb D ⟨b,168,sp⟩ s .unl lo);refine J.mcalm (x:=⟨b,168,sp⟩) rfl (Zh7 b m fn T todo ds kd ro cs (Ze a)) Qg ?_;show J _ Stop m (Qh1 b m fn T todo ds kd ro cs (Ze a)) _;refine J.munl (x:=⟨b,168,sp⟩) rfl (Qn (SE.of_info (g:=Qh1 b m fn T todo ds kd ro cs (Ze a)) (Qtg b m fn T todo ds kd ro cs (Ze a)))) ⟨_,Jr,Qtg b m fn T todo ds kd ro cs (Ze a),?_⟩;show J _ Stop m (Qth b m fn T todo ds kd ro cs (Ze a)) (Qa.lk { U with M:=M₂ } 1 bb D ⟨b,168,sp⟩ s .unl2 lo);refine J.mcalm (x:=⟨b,168,sp⟩) rfl (Q9l b m fn T todo ds kd ro cs (Ze a)) Qg ?_;show J _ Stop m (Qfq b m fn T todo ds kd ro cs (Ze a)) _;refine J.munl2 (x:=⟨b,168,sp⟩) rfl (Qn (SE.of_info (g:=Qfq b m fn T todo ds kd ro cs (Ze a)) (Qti b m fn T todo ds kd ro cs (Ze a)))) (Q9m b m fn T todo ds kd ro cs (Ze a)) ⟨_,Q4,Qti b m fn T todo ds kd ro cs (Ze a),?_⟩;show J _ Stop m (Qtj b m fn T todo ds kd ro cs (Ze a)) (Qa.lk { U with M:=M₂ } 1 bb D ⟨b,168,sp⟩ s .fin lo);refine J.mcalm (x:=⟨b,168,sp⟩) rfl (Q9n b m fn T todo ds kd ro cs (Ze a)) Qg ?_;show J _ Stop m (Qk5 b m fn T todo ds kd ro cs (Ze a)) _;refine J.mena (x:=⟨b,168,sp⟩) rfl (Q9o b m fn T todo ds kd ro cs (Ze a)) ?_;show J _ Stop m (Qtk b m fn T todo ds kd ro cs (Ze a)) _;refine J.mcalm (x:=⟨b,168,sp⟩) rfl (Q9p b m fn T todo ds kd ro cs (Ze a)) Qg ?_;rw[Q9q];exact k _ hq
 refine J.mown ht (Qn (SE.of_info (g:=Qey b m fn T todo ds kd ro cs) (Qyu b m fn T todo ds kd ro cs))) λ a ha=>?_;rcases ha with rfl|rfl
 .refine⟨_,_,Zv,Qyu b m fn T todo ds kd ro cs,.inl rfl,?_⟩;show J _ Stop m (Qix b m fn T todo ds kd ro cs) U;rw[Q9g];exact next 1
 .refine⟨_,_,Zv,Zh0 b m fn T todo ds kd ro cs,.inl rfl,?_⟩;show J _ Stop m (Qyv b m fn T todo ds kd ro cs) U;rw[Q9h];exact next 9
end Go.Proofs
