/- Lemmas. No conditions. -/
import Derived.Test.YtcakpkianonbkaaGreatDoorB16
set_option linter.all false
open Go.Proofs.Tryz (prog)
set_option maxRecDepth 100000
noncomputable section
namespace Go.Proofs
open Go.TM
section
variable(b:Nat)(m:Bool)(c:Frame)(cs:List Frame)(x:Nat->Value)(k:Int)
def tV:Qn prog 168 m 9 (Jh b m c cs (.int .i64 0) (.bool false) (.bool false) (.int .i64 k) (Zg 1) x)=some []:=K1
def G_:Gr:=Qi prog 168 m 9 (Jh b m c cs (.int .i64 0) (.bool false) (.bool false) (.int .i64 k) (Zg 1) x)
def tU:WJ prog (G_ b m c cs x k) 150 #[.int .i64 k]:=⟨K1,K1,K1,K1,K1⟩
def vQ:Qn prog 168 m 45 (aft (G_ b m c cs x k) (.bool true))=some []:=K1
def HQ:Gr:=Qi prog 168 m 45 (aft (G_ b m c cs x k) (.bool true))
def Mi:(Qc prog 168 m (HQ b m c cs x k) (Zg 1) (Qq 0)).info=some (Zg 1,Qq 0,#[],[(b,true)]):=K1
def GP:Gr:=(Qc prog 168 m (HQ b m c cs x k) (Zg 1) (Qq 0)).get (HQ b m c cs x k)
def Cr:Qn prog 168 m 4 (GP b m c cs x k)=some []:=K1
def BT:Qi prog 168 m 4 (GP b m c cs x k)=Jh b m c cs (.int .i64 0) (.bool false) (.bool false) (.int .i64 (XF (ZQ (Qi prog 168 m 4 (GP b m c cs x k)) 5))) (Zg 1) (ZQ (Qi prog 168 m 4 (GP b m c cs x k))):=K1
def vP:(Qc prog 168 m (HQ b m c cs x k) (Zg 0) (Qq 0)).info=some (Zg 0,Qq 0,#[],[(b,true)]):=K1
def V6:Gr:=(Qc prog 168 m (HQ b m c cs x k) (Zg 0) (Qq 0)).get (HQ b m c cs x k)
def Cp:Qn prog 168 m 4 (V6 b m c cs x k)=some []:=K1
def Cq:Qi prog 168 m 4 (V6 b m c cs x k)=Jh b m c cs (.int .i64 0) (.bool false) (.bool false) (.int .i64 (XF (ZQ (Qi prog 168 m 4 (V6 b m c cs x k)) 5))) (Zg 0) (ZQ (Qi prog 168 m 4 (V6 b m c cs x k))):=K1
def vF:Qn prog 168 m 61 (aft (G_ b m c cs x k) (.bool false))=some []:=K1
def HO:Gr:=Qi prog 168 m 61 (aft (G_ b m c cs x k) (.bool false))
def LA:(Qc prog 168 m (HO b m c cs x k) (Zg 1) (Qq 0)).info=some (Zg 9,Qq 0,#[Ji b 0,QA b 0],[(b,true),(b,true),(b,false),(b,false)]):=K1
def Yb:Gr:=(Qc prog 168 m (HO b m c cs x k) (Zg 1) (Qq 0)).get (HO b m c cs x k)
def Cb:Qn prog 168 m 25 (Yb b m c cs x k)=some []:=K1
def vE:(Qc prog 168 m (HO b m c cs x k) (Zg 0) (Qq 0)).info=some (Zg 0,Qq 0,#[Ji b 0],[(b,true),(b,false),(b,false)]):=K1
def SX:Gr:=(Qc prog 168 m (HO b m c cs x k) (Zg 0) (Qq 0)).get (HO b m c cs x k)
def C8:Qn prog 168 m 6 (SX b m c cs x k)=some []:=K1
def Vj:Gr:=Qi prog 168 m 6 (SX b m c cs x k)
def IX:(Qc prog 168 m (Vj b m c cs x k) (Zg 0) (Qq 0)).info=some (Zg 0,Qq 0,#[],[(b,true)]):=K1
def Vk:Gr:=(Qc prog 168 m (Vj b m c cs x k) (Zg 0) (Qq 0)).get (Vj b m c cs x k)
def C9:Qn prog 168 m 4 (Vk b m c cs x k)=some []:=K1
def Ca:Qi prog 168 m 4 (Vk b m c cs x k)=Jh b m c cs (.int .i64 0) (.bool false) (.bool false) (ZQ (Qi prog 168 m 4 (Vk b m c cs x k)) 5) (Zg 0) (ZQ (Qi prog 168 m 4 (Vk b m c cs x k))):=K1
end
section
variable(b:Nat)(m:Bool)(c:Frame)(cs:List Frame)(x:Nat->Value)
def vB:Qn prog 168 m 71 (Jh b m c cs (.int .i64 0) (.bool false) (.bool false) (.int .i64 4) (Zg 1) x)=some []:=K1
def HN:Gr:=Qi prog 168 m 71 (Jh b m c cs (.int .i64 0) (.bool false) (.bool false) (.int .i64 4) (Zg 1) x)
def Ly:(Qc prog 168 m (HN b m c cs x) (Zg 1) (Qq 0)).info=some (Zg 9,Qq 0,#[Ji b 0,QA b 0],[(b,true),(b,true),(b,false),(b,false)]):=K1
def Vi:Gr:=(Qc prog 168 m (HN b m c cs x) (Zg 1) (Qq 0)).get (HN b m c cs x)
def C6:Qn prog 168 m 25 (Vi b m c cs x)=some []:=K1
def vA:(Qc prog 168 m (HN b m c cs x) (Zg 0) (Qq 0)).info=some (Zg 0,Qq 0,#[Ji b 0],[(b,true),(b,false),(b,false)]):=K1
def SW:Gr:=(Qc prog 168 m (HN b m c cs x) (Zg 0) (Qq 0)).get (HN b m c cs x)
def C3:Qn prog 168 m 6 (SW b m c cs x)=some []:=K1
def Vg:Gr:=Qi prog 168 m 6 (SW b m c cs x)
def IW:(Qc prog 168 m (Vg b m c cs x) (Zg 0) (Qq 0)).info=some (Zg 0,Qq 0,#[],[(b,true)]):=K1
def Vh:Gr:=(Qc prog 168 m (Vg b m c cs x) (Zg 0) (Qq 0)).get (Vg b m c cs x)
def C4:Qn prog 168 m 4 (Vh b m c cs x)=some []:=K1
def C5:Qi prog 168 m 4 (Vh b m c cs x)=Jh b m c cs (.int .i64 0) (.bool false) (.bool false) (ZQ (Qi prog 168 m 4 (Vh b m c cs x)) 5) (Zg 0) (ZQ (Qi prog 168 m 4 (Vh b m c cs x))):=K1
def fe(b:Nat)(x:Nat->Value):Array Value:=#[.pointer (some ⟨b,0,none⟩),x 1,x 2,.bool false,x 4,x 5,x 6,x 7,x 8,x 9,x 10,x 11,x 12,x 13,x 14,x 15,x 16,x 17,x 18,x 19,x 20,x 21,x 22,x 23,x 24,x 25,x 26,x 27,x 28,x 29,x 30,x 31,x 32,x 33,x 34,x 35,x 36,x 37,x 38,x 39,x 40,x 41,x 42,x 43,x 44,x 45,x 46,x 47,x 48,x 49,x 50,x 51,x 52,x 53,x 54,x 55,x 56,x 57,x 58,x 59,x 60,x 61,x 62,x 63,x 64,x 65,x 66,x 67,x 68,x 69,x 70,x 71,x 72,x 73,x 74,x 75,x 76,x 77,x 78,x 79,x 80,x 81,x 82,x 83,x 84,x 85,x 86,x 87,x 88,x 89,x 90,x 91,x 92,x 93,x 94,x 95,x 96,x 97,x 98,x 99,x 100,x 101,x 102,x 103,x 104,x 105,x 106,x 107,x 108,x 109,x 110,x 111,x 112,x 113,x 114,x 115,x 116,x 117,x 118,x 119,x 120,x 121,x 122,x 123,x 124,x 125,x 126,x 127,x 128,x 129,x 130,x 131,x 132,x 133,x 134,x 135,x 136,x 137,x 138]
def GV(b:Nat)(m:Bool)(c:Frame)(cs:List Frame)(x:Nat->Value):Gr:=Oo (Qi prog 168 m 25 (Vi b m c cs (λ _=>undef))) (fe b x)
def C7:Qi prog 168 m 25 (Vi b m c cs x)=GV b m c cs (ZQ (Qi prog 168 m 25 (Vi b m c cs x))):=K1
def Cc(k:Int):Qi prog 168 m 25 (Yb b m c cs x k)=GV b m c cs (ZQ (Qi prog 168 m 25 (Yb b m c cs x k))):=K1
end
end Go.Proofs
end

