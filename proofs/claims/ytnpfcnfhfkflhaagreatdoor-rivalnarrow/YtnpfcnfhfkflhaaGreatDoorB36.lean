/- Lemmas of the proof. No conditions of their own. -/
import Derived.Test.YtnpfcnfhfkflhaaGreatDoorB17
import Derived.Test.YtnpfcnfhfkflhaaGreatDoorB33
set_option linter.all false
set_option maxRecDepth 100000
namespace Go.Proofs
open Go.TM
abbrev Q7:=Zb Tryz.prog 209 6
theorem Q2c:Extern.find Tryz.f230=some Extern.OsHooks.nano:=by kernel_rfl
theorem Q2q:Extern.find Tryz.f227=some Extern.Sync.canSpin:=by kernel_rfl
section
variable {b:Nat} {m:Bool} {c:Frame} {cs:List Frame} {U:Qa Tk} {Stop:Stp Tk} {bb:Nat} {D:TM.Spec} {sp:Bool->Bool->TM.Spec} {s:Bool} {lo:Nat}
def LkQ (b bb:Nat) (D:TM.Spec) (sp:Bool->Bool->TM.Spec) (s:Bool) (K:Qa Tk->Prop) (U:Qa Tk):Prop:=
 ∀v M lo,sp (if s then v else false) (if s then false else v) M->K { U with M:=U.M++M,tok:=⟨0,.wrk bb D,some (.lok ⟨b,202,sp⟩ s (.own v) lo)⟩ }
theorem J.nano' {g:Gr} (h:Qlw Tryz.prog g 230 #[]) (k:∀n:Int,J Q7 Stop m (aft g (.int .i64 n)) U):J Q7 Stop m g U:=
 J.nano h Tryz.func230 (by kernel_rfl) (by kernel_rfl) (by kernel_rfl) Q2c (by kernel_rfl) k
theorem J.spin' {g:Gr} {n:Int} (h:Qlw Tryz.prog g 227 #[.int .i64 n]) (h4:n<4) (k:∀r:Bool,J Q7 Stop m (aft g (.bool r)) U):J Q7 Stop m g U:=
 J.spin h Tryz.func227 (by kernel_rfl) (by kernel_rfl) (by kernel_rfl) Q2q h4 k
theorem Ql1 (x:Nat->Value) (k:LkQ b bb D sp s (J Q7 Stop m (Rf (c.finish (.tuple #[])) cs)) U):J Q7 Stop m (Qfj b m c cs x) (U.lk 1 bb D ⟨b,202,sp⟩ s .got lo):=by
 refine J.mena (x:=⟨b,202,sp⟩) rfl (Zei b m c cs x) ?_;show J _ Stop m (Qqx b m c cs x) _;refine J.mcalm (x:=⟨b,202,sp⟩) rfl (Q5c b m c cs x) Q4 ?_;show J _ Stop m (Qjt b m c cs x) _;refine J.macq (x:=⟨b,202,sp⟩) rfl (Q5d b m c cs x) λ v M hx=>?_;show J _ Stop m (Qqy b m c cs x) _;refine J.mcalm (x:=⟨b,202,sp⟩) rfl (Q5e b m c cs x) Qg ?_;rw [Q5f];exact k v M lo hx
theorem Qk6 (x:Nat->Value) (ws it:Value) (k:LkQ b bb D sp s (J Q7 Stop m (Rf (c.finish (.tuple #[])) cs)) U) :
  J Q7 Stop m (Jf b m c cs ws (.bool false) (.bool false) it (Zc 0) x) (U.lk 1 bb D ⟨b,202,sp⟩ s .idle 2):=by
 refine J.mcalm (x:=⟨b,202,sp⟩) rfl (Zi7 b m c cs x ws it) Qg ?_;show J _ Stop m (Qk4 b m c cs x ws it) _;refine J.midle (x:=⟨b,202,sp⟩) rfl (Qn (SE.of_info (g:=Qk4 b m c cs x ws it) (Qxi b m c cs x ws it))) λ cc h1 h2=>?_;obtain rfl:cc=2:=by omega
 refine .inr (.inl ⟨by decide,_,Js,Qxi b m c cs x ws it,?_⟩);show J _ Stop m (Qk5 b m c cs x ws it) _;refine J.mcalm (x:=⟨b,202,sp⟩) rfl (Zfw b m c cs x ws it) Qg ?_;rw [Zfx];exact Ql1 _ k
theorem Qw4 (x:Nat->Value) (k:LkQ b bb D sp s (J Q7 Stop m (Rf (c.finish (.tuple #[])) cs)) U):J Q7 Stop m (Qhu b m c cs x) (U.lk 1 bb D ⟨b,202,sp⟩ s .wai lo):=by
 refine J.nano' (Zer b m c cs x) λ n=>?_;refine J.mcalm (x:=⟨b,202,sp⟩) rfl (Zip b m c cs x n) Qg ?_;show J _ Stop m (Qgz b m c cs x n) _;refine J.mblk (x:=⟨b,202,sp⟩) rfl (Zis b m c cs x n) (Zir b m c cs x n) (λ st=>⟨_,Zs,Zio b m c cs x n st⟩) Q4 (Ziq b m c cs x n) ?_;show J _ Stop m (Q54 b m c cs x n) (U.lk 1 bb D ⟨b,202,sp⟩ s .wok 2);refine J.mcalm (x:=⟨b,202,sp⟩) rfl (Zit b m c cs x n) Qg ?_;show J _ Stop m (Qp6 b m c cs x n) _;refine J.nano' (Zev b m c cs x n) λ n'=>?_;refine J.mcalm (x:=⟨b,202,sp⟩) rfl (Zew b m c cs x n n') Qg ?_;show J _ Stop m (Qj2 b m c cs x n n') _;refine J.mwok (x:=⟨b,202,sp⟩) rfl (Qn (SE.of_info (g:=Qj2 b m c cs x n n') (Qw6 b m c cs x n n'))) (.inl ⟨_,_,Zs,Qw6 b m c cs x n n',.inl rfl,?_⟩);show J _ Stop m (Qhv b m c cs x n n') (U.lk 1 bb D ⟨b,202,sp⟩ s .wok 2);refine J.mcalm (x:=⟨b,202,sp⟩) rfl (Zex b m c cs x n n') Qg ?_;rw [Zey];generalize Zjc _=sv;generalize tmF _ 2=ws;generalize (tmF _:Nat->Value)=y;cases sv with
 | true=>
  refine J.mcalm (x:=⟨b,202,sp⟩) rfl (Zfi b m c cs y ws) Qg ?_;show J _ Stop m (Qj9 b m c cs y ws) _;refine J.mwok (x:=⟨b,202,sp⟩) rfl (Qn (SE.of_info (g:=Qj9 b m c cs y ws) (Qxh b m c cs y ws))) (.inr ⟨_,Js,Qxh b m c cs y ws,?_⟩);show J _ Stop m (Qka b m c cs y ws) (U.lk 1 bb D ⟨b,202,sp⟩ s .got 2);refine J.mcalm (x:=⟨b,202,sp⟩) rfl (Q65 b m c cs y ws) Qg ?_;rw [Q66];exact Ql1 _ k
 | false=>
  refine J.mcalm (x:=⟨b,202,sp⟩) rfl (Zfh b m c cs y ws) Qg ?_;show J _ Stop m (Qj7 b m c cs y ws) _;refine J.mwok (x:=⟨b,202,sp⟩) rfl (Qn (SE.of_info (g:=Qj7 b m c cs y ws) (Qxg b m c cs y ws))) (.inr ⟨_,Js,Qxg b m c cs y ws,?_⟩);show J _ Stop m (Qj8 b m c cs y ws) (U.lk 1 bb D ⟨b,202,sp⟩ s .got 2);refine J.mcalm (x:=⟨b,202,sp⟩) rfl (Q63 b m c cs y ws) Qg ?_;rw [Q64];exact Ql1 _ k
theorem Zeu (x:Nat->Value) (i:Int) (k:LkQ b bb D sp s (J Q7 Stop m (Rf (c.finish (.tuple #[])) cs)) U):J Q7 Stop m (Qdr b m c cs x i) (U.lk 1 bb D ⟨b,202,sp⟩ s .idle 1):=by
 refine J.midle (x:=⟨b,202,sp⟩) rfl (Qn (SE.of_info (g:=Qdr b m c cs x i) (Qw5 b m c cs x i))) λ cc h1 h2=>?_;obtain rfl | rfl:cc=1\/cc=2:=by omega
 .refine .inr (.inr ⟨rfl,_,Js,Qw5 b m c cs x i,?_⟩);show J _ Stop m (Qj1 b m c cs x i) (U.lk 1 bb D ⟨b,202,sp⟩ s .wai 1);refine J.mcalm (x:=⟨b,202,sp⟩) rfl (Q5z b m c cs x i) Qg ?_;rw [Q50];exact Qw4 _ k
 .refine .inl ⟨_,_,Zd,Zes b m c cs x i,.inr rfl,?_⟩;show J _ Stop m (Qrs b m c cs x i) (U.lk 1 bb D ⟨b,202,sp⟩ s .idle 2);refine J.mcalm (x:=⟨b,202,sp⟩) rfl (Q5w b m c cs x i) Qg ?_;show J _ Stop m (Qgx b m c cs x i) _;refine J.midle (x:=⟨b,202,sp⟩) rfl (Qn (SE.of_info (g:=Qgx b m c cs x i) (Qrt b m c cs x i))) λ cc h1 h2=>?_;obtain rfl:cc=2:=by omega
  refine .inl ⟨_,_,Zs,Qrt b m c cs x i,.inl rfl,?_⟩;show J _ Stop m (Qgy b m c cs x i) (U.lk 1 bb D ⟨b,202,sp⟩ s .idle 2);refine J.mcalm (x:=⟨b,202,sp⟩) rfl (Q5x b m c cs x i) Qg ?_;rw [Q5y];exact Qk6 _ _ _ k
theorem Zeq (x:Nat->Value) (k:LkQ b bb D sp s (J Q7 Stop m (Rf (c.finish (.tuple #[])) cs)) U):J Q7 Stop m (Qdq b m c cs x) (U.lk 1 bb D ⟨b,202,sp⟩ s .idle 1):=by
 refine J.midle (x:=⟨b,202,sp⟩) rfl (Qn (SE.of_info (g:=Qdq b m c cs x) (Qw3 b m c cs x))) λ cc h1 h2=>?_;obtain rfl | rfl:cc=1\/cc=2:=by omega
 .refine .inr (.inr ⟨rfl,_,Js,Qw3 b m c cs x,?_⟩);show J _ Stop m (Qgw b m c cs x) (U.lk 1 bb D ⟨b,202,sp⟩ s .wai 1);refine J.mcalm (x:=⟨b,202,sp⟩) rfl (Q5u b m c cs x) Qg ?_;rw [Q5v];exact Qw4 _ k
 .refine .inl ⟨_,_,Zd,Zeo b m c cs x,.inr rfl,?_⟩;show J _ Stop m (Qrq b m c cs x) (U.lk 1 bb D ⟨b,202,sp⟩ s .idle 2);refine J.mcalm (x:=⟨b,202,sp⟩) rfl (Q5r b m c cs x) Qg ?_;show J _ Stop m (Qgu b m c cs x) _;refine J.midle (x:=⟨b,202,sp⟩) rfl (Qn (SE.of_info (g:=Qgu b m c cs x) (Qrr b m c cs x))) λ cc h1 h2=>?_;obtain rfl:cc=2:=by omega
  refine .inl ⟨_,_,Zs,Qrr b m c cs x,.inl rfl,?_⟩;show J _ Stop m (Qgv b m c cs x) (U.lk 1 bb D ⟨b,202,sp⟩ s .idle 2);refine J.mcalm (x:=⟨b,202,sp⟩) rfl (Q5s b m c cs x) Qg ?_;rw [Q5t];exact Qk6 _ _ _ k
theorem Zem (x:Nat->Value) (k:LkQ b bb D sp s (J Q7 Stop m (Rf (c.finish (.tuple #[])) cs)) U):J Q7 Stop m (Jf b m c cs (.int .i64 0) (.bool false) (.bool false) (.int .i64 4) (Zc 1) x) (U.lk 1 bb D ⟨b,202,sp⟩ s .idle 1):=by
 refine J.mcalm (x:=⟨b,202,sp⟩) rfl (Zep b m c cs x) Qg ?_;exact Zeq x k
theorem Qdp (x:Nat->Value) (i i':Int) (h4:i<4) (hi:∀v,v=0\/v=1->True) (h1:intOf (tmF (Qi (Tryz.prog) 202 m 4 (Qew b m c cs x i)) 5)=i')
  (ih:∀y,J Q7 Stop m (Jf b m c cs (.int .i64 0) (.bool false) (.bool false) (.int .i64 i') (Zc 1) y) (U.lk 1 bb D ⟨b,202,sp⟩ s .idle 1))
  (k:LkQ b bb D sp s (J Q7 Stop m (Rf (c.finish (.tuple #[])) cs)) U):J Q7 Stop m (Jf b m c cs (.int .i64 0) (.bool false) (.bool false) (.int .i64 i) (Zc 1) x) (U.lk 1 bb D ⟨b,202,sp⟩ s .idle 1):=by
 refine J.mcalm (x:=⟨b,202,sp⟩) rfl (Zim b m c cs x i) Qg ?_;show J _ Stop m (Ql8 b m c cs x i) _;refine J.spin' (Zil b m c cs x i) h4 λ r=>?_;cases r with
 | false=>
  refine J.mcalm (x:=⟨b,202,sp⟩) rfl (Zet b m c cs x i) Qg ?_;exact Zeu x i k
 | true=>
  refine J.mcalm (x:=⟨b,202,sp⟩) rfl (Ze4 b m c cs x i) Qg ?_;show J _ Stop m (Qdu b m c cs x i) _;refine J.midle (x:=⟨b,202,sp⟩) rfl (Qn (SE.of_info (g:=Qdu b m c cs x i) (Qxb b m c cs x i))) λ cc h1' h2=>?_;obtain rfl | rfl:cc=1\/cc=2:=by omega
  .refine .inl ⟨_,_,Zs,Qxb b m c cs x i,.inl rfl,?_⟩;show J _ Stop m (Qew b m c cs x i) (U.lk 1 bb D ⟨b,202,sp⟩ s .idle 1);refine J.mcalm (x:=⟨b,202,sp⟩) rfl (Q6f b m c cs x i) Qg ?_;rw [Q6g,h1];exact ih _
  .refine .inl ⟨_,_,Zs,Ze3 b m c cs x i,.inl rfl,?_⟩;show J _ Stop m (Qg3 b m c cs x i) (U.lk 1 bb D ⟨b,202,sp⟩ s .idle 2);refine J.mcalm (x:=⟨b,202,sp⟩) rfl (Q6d b m c cs x i) Qg ?_;rw [Q6e];exact Qk6 _ _ _ k
theorem Zif (x:Nat->Value) (k:LkQ b bb D sp s (J Q7 Stop m (Rf (c.finish (.tuple #[])) cs)) U):J Q7 Stop m (Jf b m c cs (.int .i64 0) (.bool false) (.bool false) (.int .i64 0) (Zc 1) x) (U.lk 1 bb D ⟨b,202,sp⟩ s .idle 1):=
 Qdp x 0 1 (by decide) (λ _ _=>trivial) (by kernel_rfl) (λ y=>Qdp y 1 2 (by decide) (λ _ _=>trivial) (by kernel_rfl) (λ y=>Qdp y 2 3 (by decide) (λ _ _=>trivial) (by kernel_rfl) (λ y=>Qdp y 3 4 (by decide) (λ _ _=>trivial) (by kernel_rfl) (λ y=>Zem y k) k) k) k) k
theorem Q2p (k:LkQ b bb D sp s (J Q7 Stop m (Rf (c.finish (.tuple #[])) cs)) U):J Q7 Stop m (Rf (Frame.enter Tryz.prog 203 #[.pointer (some ⟨b,0,none⟩)] .normal) (c::cs)) (U.lk 1 bb D ⟨b,202,sp⟩ s .idle 1):=by
 show J _ Stop m (Qy9 b m c cs) _;refine J.mcalm (x:=⟨b,202,sp⟩) rfl (Zez b m c cs) Qg ?_;show J _ Stop m (Qds b m c cs) _;refine J.midle (x:=⟨b,202,sp⟩) rfl (Qn (SE.of_info (g:=Qds b m c cs) (Qw7 b m c cs))) λ cc h1 h2=>?_;obtain rfl | rfl:cc=1\/cc=2:=by omega
 .refine .inl ⟨_,_,Zs,Qw7 b m c cs,.inl rfl,?_⟩;show J _ Stop m (Qeu b m c cs) (U.lk 1 bb D ⟨b,202,sp⟩ s .idle 1);refine J.mcalm (x:=⟨b,202,sp⟩) rfl (Q57 b m c cs) Qg ?_;rw [Q58];exact Zif _ k
 .refine .inl ⟨_,_,Zs,Ze0 b m c cs,.inl rfl,?_⟩;show J _ Stop m (Qhw b m c cs) (U.lk 1 bb D ⟨b,202,sp⟩ s .idle 2);refine J.mcalm (x:=⟨b,202,sp⟩) rfl (Q55 b m c cs) Qg ?_;rw [Q56];exact Qk6 _ _ _ k
end
theorem Q5q {b bb:Nat} {D:TM.Spec} {sp:Bool->Bool->TM.Spec} {s:Bool} {lo:Nat} {U:Qa Tk} {Q:Value->Qa Tk->Prop} (ht:U.tok=⟨0,.wrk bb D,some (.lok ⟨b,202,sp⟩ s .idle lo)⟩)
  (hq:LkQ b bb D sp s (Q (.tuple #[])) U):Qb Q7 145 #[.pointer (some ⟨b,0,none⟩)] Q U:=by
 intro Stop m c cs k;show J _ Stop m (Qrl b m c cs) U;refine J.mcalm ht (Q5g b m c cs) Qg ?_;show J _ Stop m (Qjy b m c cs) U;refine J.mdis ht (Q5h b m c cs) ?_;show J _ Stop m (Qrm b m c cs) (U.lk 1 bb D ⟨b,202,sp⟩ s .idle lo);refine J.mcalm (x:=⟨b,202,sp⟩) rfl (Q5i b m c cs) Qg ?_;show J _ Stop m (Qbv b m c cs) _
 have fast:∀cc,J Q7 Stop m (Qrn b m c cs) (U.lk 1 bb D ⟨b,202,sp⟩ s .got cc):=by
  intro cc;refine J.mcalm (x:=⟨b,202,sp⟩) rfl (Q5k b m c cs) Qg ?_;show J _ Stop m (Qjz b m c cs) _;refine J.mena (x:=⟨b,202,sp⟩) rfl (Q5l b m c cs) ?_;show J _ Stop m (Qro b m c cs) _;refine J.mcalm (x:=⟨b,202,sp⟩) rfl (Q5m b m c cs) Q4 ?_;show J _ Stop m (Qj0 b m c cs) _;refine J.macq (x:=⟨b,202,sp⟩) rfl (Q5n b m c cs) λ v M hx=>?_;show J _ Stop m (Qrp b m c cs) _;refine J.mcalm (x:=⟨b,202,sp⟩) rfl (Q5o b m c cs) Qg ?_;rw [Q5p];exact k _ _ (hq v M cc hx)
 refine J.midle (x:=⟨b,202,sp⟩) rfl (Qn (SE.of_info (g:=Qbv b m c cs) (Qi6 b m c cs))) λ cc h1 h2=>?_;obtain rfl | rfl | rfl:cc=0\/cc=1\/cc=2:=by omega
 .exact .inr (.inl ⟨by decide,_,Js,Qi6 b m c cs,fast 0⟩)
 .refine .inl ⟨_,_,Zd,Q5j b m c cs,.inr rfl,?_⟩;show J _ Stop m (Qg2 b m c cs) (U.lk 1 bb D ⟨b,202,sp⟩ s .idle 1);refine J.mcalm (x:=⟨b,202,sp⟩) rfl (Q59 b m c cs) Qg ?_;rw [Q6a];refine Q2p λ v M lo' hx=>?_;refine J.mcalm (x:=⟨b,202,sp⟩) rfl (Q6b b m c cs) Qg ?_;rw [Q6c];exact k _ _ (hq v M lo' hx)
 .exact .inr (.inl ⟨by decide,_,Js,Qi6 b m c cs,fast 2⟩)
theorem Qzi {b bb:Nat} {D:TM.Spec} {sp:Bool->Bool->TM.Spec} {s v:Bool} {lo:Nat} {U:Qa Tk} {M₁ M₂:List Qx} {Q:Qa Tk->Prop} (ht:U.tok=⟨0,.wrk bb D,some (.lok ⟨b,202,sp⟩ s (.own v) lo)⟩) (hM:U.M=M₁++M₂)
  (hD:sp (if s then v else true) (if s then true else v) M₁) (hq:Q { U with M:=M₂,tok:=⟨0,.wrk bb D,some (.lok ⟨b,202,sp⟩ s .fin lo)⟩ }):Qux Q7 146 #[.pointer (some ⟨b,0,none⟩)] Q U:=by
 intro Stop m c cs hc k;obtain⟨fn,T,todo,ds,mode,kd,ro⟩:=c;simp only at hc;subst hc;show J _ Stop m (Qzd b m fn T todo ds kd ro cs) U;refine J.mcalm ht (Ze6 b m fn T todo ds kd ro cs) Qg ?_;show J _ Stop m (Qd9 b m fn T todo ds kd ro cs) U
 have next:∀a,J Q7 Stop m (Qj6 b m fn T todo ds kd ro cs (Zc a)) U:=by
  intro a;refine J.mcalm ht (Zfg b m fn T todo ds kd ro cs (Zc a)) Q4 ?_;show J _ Stop m (Qp7 b m fn T todo ds kd ro cs (Zc a)) U;refine J.mrel ht hM hD (Ze9 b m fn T todo ds kd ro cs (Zc a)) ?_;show J _ Stop m (Qze b m fn T todo ds kd ro cs (Zc a)) _;refine J.mcalm (x:=⟨b,202,sp⟩) rfl (Zfa b m fn T todo ds kd ro cs (Zc a)) Qg ?_;show J _ Stop m (Qp8 b m fn T todo ds kd ro cs (Zc a)) _;refine J.mdis (x:=⟨b,202,sp⟩) rfl (Zfb b m fn T todo ds kd ro cs (Zc a)) ?_;show J _ Stop m (Qzf b m fn T todo ds kd ro cs (Zc a)) (Qa.lk { U with M:=M₂ } 1 bb D ⟨b,202,sp⟩ s .rls lo);refine J.mcalm (x:=⟨b,202,sp⟩) rfl (Zfc b m fn T todo ds kd ro cs (Zc a)) Qg ?_;show J _ Stop m (Qea b m fn T todo ds kd ro cs (Zc a)) _;refine J.mrls (x:=⟨b,202,sp⟩) rfl (Qn (SE.of_info (g:=Qea b m fn T todo ds kd ro cs (Zc a)) (Qxf b m fn T todo ds kd ro cs (Zc a)))) ⟨_,Q4,Qxf b m fn T todo ds kd ro cs (Zc a),?_⟩ ⟨_,Q4,Zfd b m fn T todo ds kd ro cs (Zc a),?_⟩
  .show J _ Stop m (Qzg b m fn T todo ds kd ro cs (Zc a)) (Qa.lk { U with M:=M₂ } 1 bb D ⟨b,202,sp⟩ s .fin lo);refine J.mcalm (x:=⟨b,202,sp⟩) rfl (Zfe b m fn T todo ds kd ro cs (Zc a)) Qg ?_;show J _ Stop m (Qj4 b m fn T todo ds kd ro cs (Zc a)) _;refine J.mena (x:=⟨b,202,sp⟩) rfl (Q6u b m fn T todo ds kd ro cs (Zc a)) ?_;show J _ Stop m (Qr2 b m fn T todo ds kd ro cs (Zc a)) _;refine J.mcalm (x:=⟨b,202,sp⟩) rfl (Q6v b m fn T todo ds kd ro cs (Zc a)) Qg ?_;rw [Q6w];exact k _ hq
  .show J _ Stop m (Qzh b m fn T todo ds kd ro cs (Zc a)) (Qa.lk { U with M:=M₂ } 1 bb D ⟨b,202,sp⟩ s .unl lo);refine J.mcalm (x:=⟨b,202,sp⟩) rfl (Zff b m fn T todo ds kd ro cs (Zc a)) Qg ?_;show J _ Stop m (Qg6 b m fn T todo ds kd ro cs (Zc a)) _;refine J.munl (x:=⟨b,202,sp⟩) rfl (Qn (SE.of_info (g:=Qg6 b m fn T todo ds kd ro cs (Zc a)) (Qr3 b m fn T todo ds kd ro cs (Zc a)))) ⟨_,Js,Qr3 b m fn T todo ds kd ro cs (Zc a),?_⟩;show J _ Stop m (Qr4 b m fn T todo ds kd ro cs (Zc a)) (Qa.lk { U with M:=M₂ } 1 bb D ⟨b,202,sp⟩ s .unl2 lo);refine J.mcalm (x:=⟨b,202,sp⟩) rfl (Q6x b m fn T todo ds kd ro cs (Zc a)) Qg ?_;show J _ Stop m (Qe2 b m fn T todo ds kd ro cs (Zc a)) _;refine J.munl2 (x:=⟨b,202,sp⟩) rfl (Qn (SE.of_info (g:=Qe2 b m fn T todo ds kd ro cs (Zc a)) (Qr5 b m fn T todo ds kd ro cs (Zc a)))) (Q6y b m fn T todo ds kd ro cs (Zc a)) ⟨_,Q4,Qr5 b m fn T todo ds kd ro cs (Zc a),?_⟩;show J _ Stop m (Qr6 b m fn T todo ds kd ro cs (Zc a)) (Qa.lk { U with M:=M₂ } 1 bb D ⟨b,202,sp⟩ s .fin lo);refine J.mcalm (x:=⟨b,202,sp⟩) rfl (Q6z b m fn T todo ds kd ro cs (Zc a)) Qg ?_;show J _ Stop m (Qj5 b m fn T todo ds kd ro cs (Zc a)) _;refine J.mena (x:=⟨b,202,sp⟩) rfl (Q60 b m fn T todo ds kd ro cs (Zc a)) ?_;show J _ Stop m (Qr7 b m fn T todo ds kd ro cs (Zc a)) _;refine J.mcalm (x:=⟨b,202,sp⟩) rfl (Q61 b m fn T todo ds kd ro cs (Zc a)) Qg ?_;rw [Q62];exact k _ hq
 refine J.mown ht (Qn (SE.of_info (g:=Qd9 b m fn T todo ds kd ro cs) (Qxd b m fn T todo ds kd ro cs))) λ a ha=>?_;rcases ha with rfl | rfl
 .refine⟨_,_,Zs,Qxd b m fn T todo ds kd ro cs,.inl rfl,?_⟩;show J _ Stop m (Qh0 b m fn T todo ds kd ro cs) U;rw [Q6s];exact next 1
 .refine⟨_,_,Zs,Ze8 b m fn T todo ds kd ro cs,.inl rfl,?_⟩;show J _ Stop m (Qxe b m fn T todo ds kd ro cs) U;rw [Q6t];exact next 9
end Go.Proofs
