/- Lemmas. No conditions. -/
import Derived.Test.YtnpfcnfhfkflhaaGreatDoorB17
import Derived.Test.YtnpfcnfhfkflhaaGreatDoorB33
set_option linter.all false
set_option maxRecDepth 100000
namespace Go.Proofs
open Go.TM
abbrev Q7:=Zb Tryz.prog 209 6
def CC:Extern.find Tryz.f230=some Extern.OsHooks.nano:=K1
def Ai:Extern.find Tryz.f227=some Extern.Sync.canSpin:=K1
section
variable{b:Nat}{m:Bool}{c:Frame}{cs:List Frame}{U:Qa Tk}{Stop:QJ Tk}{bb:Nat}{D:TM.Spec}{sp:Bool->Bool->TM.Spec}{s:Bool}{lo:Nat}
def Xv(b bb:Nat)(D:TM.Spec)(sp:Bool->Bool->TM.Spec)(s:Bool)(K:Qa Tk->Prop)(U:Qa Tk):Prop:=
 ∀v M lo,sp (if s then v else false) (if s then false else v) M->K { U with M:=U.M++M,tok:=⟨0,.wrk bb D,some (.lok ⟨b,202,sp⟩ s (.own v) lo)⟩ }
def J.nano'{g:Gr}(h:WW Tryz.prog g 230 #[])(k:∀n:Int,J Q7 Stop m (aft g (.int .i64 n)) U):J Q7 Stop m g U:=
 J.nano h Tryz.func230 K1 K1 K1 CC K1 k
def J.spin'{g:Gr}{n:Int}(h:WW Tryz.prog g 227 #[.int .i64 n])(b:n<4)(k:∀r:Bool,J Q7 Stop m (aft g (.bool r)) U):J Q7 Stop m g U:=
 J.spin h Tryz.func227 K1 K1 K1 Ai b k
def OW(x:Nat->Value)(k:Xv b bb D sp s (J Q7 Stop m (Rf (c.finish (.tuple #[])) cs)) U):J Q7 Stop m (HJ b m c cs x) (U.lk 1 bb D ⟨b,202,sp⟩ s .got lo):=by
 refine J.mena (x:=⟨b,202,sp⟩) rfl (yw b m c cs x) ?_;show J _ Stop m (TR b m c cs x) _;refine J.mcalm (x:=⟨b,202,sp⟩) rfl (NP b m c cs x) Q4 ?_;show J _ Stop m (Vp b m c cs x) _;refine J.macq (x:=⟨b,202,sp⟩) rfl (A4 b m c cs x) λ v M e=>?_;show J _ Stop m (Sn b m c cs x) _;refine J.mcalm (x:=⟨b,202,sp⟩) rfl (kz b m c cs x) Qg ?_;rw[zf];exact k v M lo e
def Yz(x:Nat->Value)(ws it:Value)(k:Xv b bb D sp s (J Q7 Stop m (Rf (c.finish (.tuple #[])) cs)) U) :
  J Q7 Stop m (Jf b m c cs ws (.bool false) (.bool false) it (Zc 0) x) (U.lk 1 bb D ⟨b,202,sp⟩ s .idle 2):=by
 refine J.mcalm (x:=⟨b,202,sp⟩) rfl (Nk b m c cs x ws it) Qg ?_;show J _ Stop m (PQ b m c cs x ws it) _;refine J.midle (x:=⟨b,202,sp⟩) rfl (Qn (SE.of_info (g:=PQ b m c cs x ws it) (El b m c cs x ws it))) λ cc e f=>?_;obtain rfl:cc=2:=O1
 refine .inr (.inl ⟨D1,_,Js,El b m c cs x ws it,?_⟩);show J _ Stop m (Pj b m c cs x ws it) _;refine J.mcalm (x:=⟨b,202,sp⟩) rfl (tw b m c cs x ws it) Qg ?_;rw[Az];exact OW _ k
def It(x:Nat->Value)(k:Xv b bb D sp s (J Q7 Stop m (Rf (c.finish (.tuple #[])) cs)) U):J Q7 Stop m (H_ b m c cs x) (U.lk 1 bb D ⟨b,202,sp⟩ s .wai lo):=by
 refine J.nano' (A0 b m c cs x) λ n=>?_;refine J.mcalm (x:=⟨b,202,sp⟩) rfl (NX b m c cs x n) Qg ?_;show J _ Stop m (Hl b m c cs x n) _;refine J.mblk (x:=⟨b,202,sp⟩) rfl (NH b m c cs x n) (pY b m c cs x n) (λ st=>⟨_,Zs,RX b m c cs x n st⟩) Q4 (C1 b m c cs x n) ?_;show J _ Stop m (TE b m c cs x n) (U.lk 1 bb D ⟨b,202,sp⟩ s .wok 2);refine J.mcalm (x:=⟨b,202,sp⟩) rfl (C3 b m c cs x n) Qg ?_;show J _ Stop m (KQ b m c cs x n) _;refine J.nano' (jr b m c cs x n) λ n'=>?_;refine J.mcalm (x:=⟨b,202,sp⟩) rfl (C_ b m c cs x n n') Qg ?_;show J _ Stop m (PH b m c cs x n n') _;refine J.mwok (x:=⟨b,202,sp⟩) rfl (Qn (SE.of_info (g:=PH b m c cs x n n') (FA b m c cs x n n'))) (.inl ⟨_,_,Zs,FA b m c cs x n n',.inl rfl,?_⟩);show J _ Stop m (Gs b m c cs x n n') (U.lk 1 bb D ⟨b,202,sp⟩ s .wok 2);refine J.mcalm (x:=⟨b,202,sp⟩) rfl (qI b m c cs x n n') Qg ?_;rw[RT];generalize IA _=e;generalize ZP _ 2=ws;generalize(ZP _:Nat->Value)=y;cases e with
 |true=>
  refine J.mcalm (x:=⟨b,202,sp⟩) rfl (th b m c cs y ws) Qg ?_;show J _ Stop m (Pa b m c cs y ws) _;refine J.mwok (x:=⟨b,202,sp⟩) rfl (Qn (SE.of_info (g:=Pa b m c cs y ws) (D0 b m c cs y ws))) (.inr ⟨_,Js,D0 b m c cs y ws,?_⟩);show J _ Stop m (Yi b m c cs y ws) (U.lk 1 bb D ⟨b,202,sp⟩ s .got 2);refine J.mcalm (x:=⟨b,202,sp⟩) rfl (gG b m c cs y ws) Qg ?_;rw[xz];exact OW _ k
 |false=>
  refine J.mcalm (x:=⟨b,202,sp⟩) rfl (Cl b m c cs y ws) Qg ?_;show J _ Stop m (Pp b m c cs y ws) _;refine J.mwok (x:=⟨b,202,sp⟩) rfl (Qn (SE.of_info (g:=Pp b m c cs y ws) (Ia b m c cs y ws))) (.inr ⟨_,Js,Ia b m c cs y ws,?_⟩);show J _ Stop m (VC b m c cs y ws) (U.lk 1 bb D ⟨b,202,sp⟩ s .got 2);refine J.mcalm (x:=⟨b,202,sp⟩) rfl (NM b m c cs y ws) Qg ?_;rw[vy];exact OW _ k
def gV(x:Nat->Value)(i:Int)(k:Xv b bb D sp s (J Q7 Stop m (Rf (c.finish (.tuple #[])) cs)) U):J Q7 Stop m (Hw b m c cs x i) (U.lk 1 bb D ⟨b,202,sp⟩ s .idle 1):=by
 refine J.midle (x:=⟨b,202,sp⟩) rfl (Qn (SE.of_info (g:=Hw b m c cs x i) (F_ b m c cs x i))) λ cc e f=>?_;obtain rfl|rfl:cc=1\/cc=2:=O1
 .refine .inr (.inr ⟨rfl,_,Js,F_ b m c cs x i,?_⟩);show J _ Stop m (K8 b m c cs x i) (U.lk 1 bb D ⟨b,202,sp⟩ s .wai 1);refine J.mcalm (x:=⟨b,202,sp⟩) rfl (qV b m c cs x i) Qg ?_;rw[BJ];exact It _ k
 .refine .inl ⟨_,_,Zd,BT b m c cs x i,.inr rfl,?_⟩;show J _ Stop m (Ob b m c cs x i) (U.lk 1 bb D ⟨b,202,sp⟩ s .idle 2);refine J.mcalm (x:=⟨b,202,sp⟩) rfl (Rg b m c cs x i) Qg ?_;show J _ Stop m (GQ b m c cs x i) _;refine J.midle (x:=⟨b,202,sp⟩) rfl (Qn (SE.of_info (g:=GQ b m c cs x i) (LO b m c cs x i))) λ cc e f=>?_;obtain rfl:cc=2:=O1
  refine .inl ⟨_,_,Zs,LO b m c cs x i,.inl rfl,?_⟩;show J _ Stop m (PX b m c cs x i) (U.lk 1 bb D ⟨b,202,sp⟩ s .idle 2);refine J.mcalm (x:=⟨b,202,sp⟩) rfl (Ro b m c cs x i) Qg ?_;rw[jX];exact Yz _ _ _ k
def Rp(x:Nat->Value)(k:Xv b bb D sp s (J Q7 Stop m (Rf (c.finish (.tuple #[])) cs)) U):J Q7 Stop m (Hs b m c cs x) (U.lk 1 bb D ⟨b,202,sp⟩ s .idle 1):=by
 refine J.midle (x:=⟨b,202,sp⟩) rfl (Qn (SE.of_info (g:=Hs b m c cs x) (DG b m c cs x))) λ cc e f=>?_;obtain rfl|rfl:cc=1\/cc=2:=O1
 .refine .inr (.inr ⟨rfl,_,Js,DG b m c cs x,?_⟩);show J _ Stop m (Pk b m c cs x) (U.lk 1 bb D ⟨b,202,sp⟩ s .wai 1);refine J.mcalm (x:=⟨b,202,sp⟩) rfl (pU b m c cs x) Qg ?_;rw[tn];exact It _ k
 .refine .inl ⟨_,_,Zd,wY b m c cs x,.inr rfl,?_⟩;show J _ Stop m (O8 b m c cs x) (U.lk 1 bb D ⟨b,202,sp⟩ s .idle 2);refine J.mcalm (x:=⟨b,202,sp⟩) rfl (BA b m c cs x) Qg ?_;show J _ Stop m (V4 b m c cs x) _;refine J.midle (x:=⟨b,202,sp⟩) rfl (Qn (SE.of_info (g:=V4 b m c cs x) (Io b m c cs x))) λ cc e f=>?_;obtain rfl:cc=2:=O1
  refine .inl ⟨_,_,Zs,Io b m c cs x,.inl rfl,?_⟩;show J _ Stop m (PZ b m c cs x) (U.lk 1 bb D ⟨b,202,sp⟩ s .idle 2);refine J.mcalm (x:=⟨b,202,sp⟩) rfl (Na b m c cs x) Qg ?_;rw[jx];exact Yz _ _ _ k
def Mq(x:Nat->Value)(k:Xv b bb D sp s (J Q7 Stop m (Rf (c.finish (.tuple #[])) cs)) U):J Q7 Stop m (Jf b m c cs (.int .i64 0) (.bool false) (.bool false) (.int .i64 4) (Zc 1) x) (U.lk 1 bb D ⟨b,202,sp⟩ s .idle 1):=by
 refine J.mcalm (x:=⟨b,202,sp⟩) rfl (C8 b m c cs x) Qg ?_;exact Rp x k
def Vb(x:Nat->Value)(i e:Int)(w:i<4)(E:∀v,v=0\/v=1->True)(f:Xm (ZP (Qi (Tryz.prog) 202 m 4 (GA b m c cs x i)) 5)=e)
  (z:∀y,J Q7 Stop m (Jf b m c cs (.int .i64 0) (.bool false) (.bool false) (.int .i64 e) (Zc 1) y) (U.lk 1 bb D ⟨b,202,sp⟩ s .idle 1))
  (k:Xv b bb D sp s (J Q7 Stop m (Rf (c.finish (.tuple #[])) cs)) U):J Q7 Stop m (Jf b m c cs (.int .i64 0) (.bool false) (.bool false) (.int .i64 i) (Zc 1) x) (U.lk 1 bb D ⟨b,202,sp⟩ s .idle 1):=by
 refine J.mcalm (x:=⟨b,202,sp⟩) rfl (xA b m c cs x i) Qg ?_;show J _ Stop m (Ga b m c cs x i) _;refine J.spin' (gx b m c cs x i) w λ r=>?_;cases r with
 |false=>
  refine J.mcalm (x:=⟨b,202,sp⟩) rfl (CK b m c cs x i) Qg ?_;exact gV x i k
 |true=>
  refine J.mcalm (x:=⟨b,202,sp⟩) rfl (te b m c cs x i) Qg ?_;show J _ Stop m (Ht b m c cs x i) _;refine J.midle (x:=⟨b,202,sp⟩) rfl (Qn (SE.of_info (g:=Ht b m c cs x i) (Fb b m c cs x i))) λ cc h B=>?_;obtain rfl|rfl:cc=1\/cc=2:=O1
  .refine .inl ⟨_,_,Zs,Fb b m c cs x i,.inl rfl,?_⟩;show J _ Stop m (GA b m c cs x i) (U.lk 1 bb D ⟨b,202,sp⟩ s .idle 1);refine J.mcalm (x:=⟨b,202,sp⟩) rfl (AT b m c cs x i) Qg ?_;rw[yP,f];exact z _
  .refine .inl ⟨_,_,Zs,pP b m c cs x i,.inl rfl,?_⟩;show J _ Stop m (V5 b m c cs x i) (U.lk 1 bb D ⟨b,202,sp⟩ s .idle 2);refine J.mcalm (x:=⟨b,202,sp⟩) rfl (yS b m c cs x i) Qg ?_;rw[CI];exact Yz _ _ _ k
def A7(x:Nat->Value)(k:Xv b bb D sp s (J Q7 Stop m (Rf (c.finish (.tuple #[])) cs)) U):J Q7 Stop m (Jf b m c cs (.int .i64 0) (.bool false) (.bool false) (.int .i64 0) (Zc 1) x) (U.lk 1 bb D ⟨b,202,sp⟩ s .idle 1):=
 Vb x 0 1 D1 (λ _ _=>trivial) K1 (λ y=>Vb y 1 2 D1 (λ _ _=>trivial) K1 (λ y=>Vb y 2 3 D1 (λ _ _=>trivial) K1 (λ y=>Vb y 3 4 D1 (λ _ _=>trivial) K1 (λ y=>Mq y k) k) k) k) k
def vN(k:Xv b bb D sp s (J Q7 Stop m (Rf (c.finish (.tuple #[])) cs)) U):J Q7 Stop m (Rf (Frame.enter Tryz.prog 203 #[.pointer (some ⟨b,0,none⟩)] .normal) (c::cs)) (U.lk 1 bb D ⟨b,202,sp⟩ s .idle 1):=by
 show J _ Stop m (S5 b m c cs) _;refine J.mcalm (x:=⟨b,202,sp⟩) rfl (yW b m c cs) Qg ?_;show J _ Stop m (Hx b m c cs) _;refine J.midle (x:=⟨b,202,sp⟩) rfl (Qn (SE.of_info (g:=Hx b m c cs) (Es b m c cs))) λ cc e f=>?_;obtain rfl|rfl:cc=1\/cc=2:=O1
 .refine .inl ⟨_,_,Zs,Es b m c cs,.inl rfl,?_⟩;show J _ Stop m (PU b m c cs) (U.lk 1 bb D ⟨b,202,sp⟩ s .idle 1);refine J.mcalm (x:=⟨b,202,sp⟩) rfl (kG b m c cs) Qg ?_;rw[oH];exact A7 _ k
 .refine .inl ⟨_,_,Zs,Nd b m c cs,.inl rfl,?_⟩;show J _ Stop m (VK b m c cs) (U.lk 1 bb D ⟨b,202,sp⟩ s .idle 2);refine J.mcalm (x:=⟨b,202,sp⟩) rfl (Ni b m c cs) Qg ?_;rw[vR];exact Yz _ _ _ k
end
def ki{b bb:Nat}{D:TM.Spec}{sp:Bool->Bool->TM.Spec}{s:Bool}{lo:Nat}{U:Qa Tk}{Q:Value->Qa Tk->Prop}(w:U.tok=⟨0,.wrk bb D,some (.lok ⟨b,202,sp⟩ s .idle lo)⟩)
  (h:Xv b bb D sp s (Q (.tuple #[])) U):Qb Q7 145 #[.pointer (some ⟨b,0,none⟩)] Q U:=by
 intro Stop m c cs k;show J _ Stop m (UF b m c cs) U;refine J.mcalm w (x_ b m c cs) Qg ?_;show J _ Stop m (Vo b m c cs) U;refine J.mdis w (RP b m c cs) ?_;show J _ Stop m (OJ b m c cs) (U.lk 1 bb D ⟨b,202,sp⟩ s .idle lo);refine J.mcalm (x:=⟨b,202,sp⟩) rfl (pz b m c cs) Qg ?_;show J _ Stop m (Hu b m c cs) _
 have e:∀cc,J Q7 Stop m (Ot b m c cs) (U.lk 1 bb D ⟨b,202,sp⟩ s .got cc):=by
  intro cc;refine J.mcalm (x:=⟨b,202,sp⟩) rfl (vq b m c cs) Qg ?_;show J _ Stop m (YC b m c cs) _;refine J.mena (x:=⟨b,202,sp⟩) rfl (pB b m c cs) ?_;show J _ Stop m (Uy b m c cs) _;refine J.mcalm (x:=⟨b,202,sp⟩) rfl (zY b m c cs) Q4 ?_;show J _ Stop m (Kx b m c cs) _;refine J.macq (x:=⟨b,202,sp⟩) rfl (gz b m c cs) λ v M f=>?_;show J _ Stop m (Ut b m c cs) _;refine J.mcalm (x:=⟨b,202,sp⟩) rfl (zG b m c cs) Qg ?_;rw[gp];exact k _ _ (h v M cc f)
 refine J.midle (x:=⟨b,202,sp⟩) rfl (Qn (SE.of_info (g:=Hu b m c cs) (UB b m c cs))) λ cc z B=>?_;obtain rfl|rfl|rfl:cc=0\/cc=1\/cc=2:=O1
 .exact .inr (.inl ⟨D1,_,Js,UB b m c cs,e 0⟩)
 .refine .inl ⟨_,_,Zd,B1 b m c cs,.inr rfl,?_⟩;show J _ Stop m (PY b m c cs) (U.lk 1 bb D ⟨b,202,sp⟩ s .idle 1);refine J.mcalm (x:=⟨b,202,sp⟩) rfl (xH b m c cs) Qg ?_;rw[kT];refine vN λ v M lo' f=>?_;refine J.mcalm (x:=⟨b,202,sp⟩) rfl (xD b m c cs) Qg ?_;rw[oX];exact k _ _ (h v M lo' f)
 .exact .inr (.inl ⟨D1,_,Js,UB b m c cs,e 2⟩)
def yJ{b bb:Nat}{D:TM.Spec}{sp:Bool->Bool->TM.Spec}{s v:Bool}{lo:Nat}{U:Qa Tk}{M₁ M₂:List Qx}{Q:Qa Tk->Prop}(e:U.tok=⟨0,.wrk bb D,some (.lok ⟨b,202,sp⟩ s (.own v) lo)⟩)(z:U.M=M₁++M₂)
  (w:sp (if s then v else true) (if s then true else v) M₁) (h:Q { U with M:=M₂,tok:=⟨0,.wrk bb D,some (.lok ⟨b,202,sp⟩ s .fin lo)⟩ }):XK Q7 146 #[.pointer (some ⟨b,0,none⟩)] Q U:=by
 intro Stop m c cs f k;obtain⟨fn,T,todo,ds,mode,kd,ro⟩:=c;simp only at f;subst f;show J _ Stop m (Tn b m fn T todo ds kd ro cs) U;refine J.mcalm e (CR b m fn T todo ds kd ro cs) Qg ?_;show J _ Stop m (Hn b m fn T todo ds kd ro cs) U
 have next:∀a,J Q7 Stop m (P5 b m fn T todo ds kd ro cs (Zc a)) U:=by
  intro a;refine J.mcalm e (AU b m fn T todo ds kd ro cs (Zc a)) Q4 ?_;show J _ Stop m (VB b m fn T todo ds kd ro cs (Zc a)) U;refine J.mrel e z w (wE b m fn T todo ds kd ro cs (Zc a)) ?_;show J _ Stop m (Sx b m fn T todo ds kd ro cs (Zc a)) _;refine J.mcalm (x:=⟨b,202,sp⟩) rfl (yK b m fn T todo ds kd ro cs (Zc a)) Qg ?_;show J _ Stop m (Vz b m fn T todo ds kd ro cs (Zc a)) _;refine J.mdis (x:=⟨b,202,sp⟩) rfl (oj b m fn T todo ds kd ro cs (Zc a)) ?_;show J _ Stop m (OD b m fn T todo ds kd ro cs (Zc a)) (Qa.lk { U with M:=M₂ } 1 bb D ⟨b,202,sp⟩ s .rls lo);refine J.mcalm (x:=⟨b,202,sp⟩) rfl (Nv b m fn T todo ds kd ro cs (Zc a)) Qg ?_;show J _ Stop m (Hm b m fn T todo ds kd ro cs (Zc a)) _;refine J.mrls (x:=⟨b,202,sp⟩) rfl (Qn (SE.of_info (g:=Hm b m fn T todo ds kd ro cs (Zc a)) (LM b m fn T todo ds kd ro cs (Zc a)))) ⟨_,Q4,LM b m fn T todo ds kd ro cs (Zc a),?_⟩ ⟨_,Q4,MX b m fn T todo ds kd ro cs (Zc a),?_⟩
  .show J _ Stop m (SD b m fn T todo ds kd ro cs (Zc a)) (Qa.lk { U with M:=M₂ } 1 bb D ⟨b,202,sp⟩ s .fin lo);refine J.mcalm (x:=⟨b,202,sp⟩) rfl (g_ b m fn T todo ds kd ro cs (Zc a)) Qg ?_;show J _ Stop m (VQ b m fn T todo ds kd ro cs (Zc a)) _;refine J.mena (x:=⟨b,202,sp⟩) rfl (vr b m fn T todo ds kd ro cs (Zc a)) ?_;show J _ Stop m (Oj b m fn T todo ds kd ro cs (Zc a)) _;refine J.mcalm (x:=⟨b,202,sp⟩) rfl (qk b m fn T todo ds kd ro cs (Zc a)) Qg ?_;rw[Np];exact k _ h
  .show J _ Stop m (To b m fn T todo ds kd ro cs (Zc a)) (Qa.lk { U with M:=M₂ } 1 bb D ⟨b,202,sp⟩ s .unl lo);refine J.mcalm (x:=⟨b,202,sp⟩) rfl (pQ b m fn T todo ds kd ro cs (Zc a)) Qg ?_;show J _ Stop m (Pt b m fn T todo ds kd ro cs (Zc a)) _;refine J.munl (x:=⟨b,202,sp⟩) rfl (Qn (SE.of_info (g:=Pt b m fn T todo ds kd ro cs (Zc a)) (Dz b m fn T todo ds kd ro cs (Zc a)))) ⟨_,Js,Dz b m fn T todo ds kd ro cs (Zc a),?_⟩;show J _ Stop m (Sc b m fn T todo ds kd ro cs (Zc a)) (Qa.lk { U with M:=M₂ } 1 bb D ⟨b,202,sp⟩ s .unl2 lo);refine J.mcalm (x:=⟨b,202,sp⟩) rfl (C2 b m fn T todo ds kd ro cs (Zc a)) Qg ?_;show J _ Stop m (Gu b m fn T todo ds kd ro cs (Zc a)) _;refine J.munl2 (x:=⟨b,202,sp⟩) rfl (Qn (SE.of_info (g:=Gu b m fn T todo ds kd ro cs (Zc a)) (Ft b m fn T todo ds kd ro cs (Zc a)))) (A9 b m fn T todo ds kd ro cs (Zc a)) ⟨_,Q4,Ft b m fn T todo ds kd ro cs (Zc a),?_⟩;show J _ Stop m (O0 b m fn T todo ds kd ro cs (Zc a)) (Qa.lk { U with M:=M₂ } 1 bb D ⟨b,202,sp⟩ s .fin lo);refine J.mcalm (x:=⟨b,202,sp⟩) rfl (CH b m fn T todo ds kd ro cs (Zc a)) Qg ?_;show J _ Stop m (Ku b m fn T todo ds kd ro cs (Zc a)) _;refine J.mena (x:=⟨b,202,sp⟩) rfl (Bn b m fn T todo ds kd ro cs (Zc a)) ?_;show J _ Stop m (YF b m fn T todo ds kd ro cs (Zc a)) _;refine J.mcalm (x:=⟨b,202,sp⟩) rfl (MA b m fn T todo ds kd ro cs (Zc a)) Qg ?_;rw[CW];exact k _ h
 refine J.mown e (Qn (SE.of_info (g:=Hn b m fn T todo ds kd ro cs) (DL b m fn T todo ds kd ro cs))) λ a B=>?_;rcases B with rfl|rfl
 .refine⟨_,_,Zs,DL b m fn T todo ds kd ro cs,.inl rfl,?_⟩;show J _ Stop m (VN b m fn T todo ds kd ro cs) U;rw[oD];exact next 1
 .refine⟨_,_,Zs,zQ b m fn T todo ds kd ro cs,.inl rfl,?_⟩;show J _ Stop m (Dp b m fn T todo ds kd ro cs) U;rw[zg];exact next 9
end Go.Proofs

