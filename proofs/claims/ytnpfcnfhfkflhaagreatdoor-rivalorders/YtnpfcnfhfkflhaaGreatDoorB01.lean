/- Lemmas. No conditions. -/
import Derived.Test.YtnpfcnfhfkflhaaGreatDoorB00
set_option linter.all false
open List
namespace Go
abbrev Operand.t(n:Nat):Operand:=.tmp n
abbrev Operand.ci(n:Int):Operand:=.const (.int .i64 n)
abbrev Operand.cb(b:Bool):Operand:=.const (.bool b)
abbrev Operand.cn:Operand:=.const (.slice none 0 0)
end Go
namespace Go.TM
variable{T:Type}{P:Program}{S:Sys P T}
def J5(o:Oper):Oper:={ dst:=none,op:=o.op,type:=o.type,pos := "", after:=#[],guard:=none }
def oF:BinOp->Bool
 |.eql|.neq|.lss|.leq|.gtr|.geq=>true
 |_=>false
def Iz(P:Program)(o:Oper)(op:BinOp)(t:TypeId)(x y:Operand):O:=
 match P.underlying t with
 |some (.int k)=>
  if oF op then .cmp op x y
  else match k,op with
   |.i64,.add=>.add x y
   |.i64,.sub=>.sub x y
   |.i64,.mul=>.mul x y
   |_,_=>.ar op x y
 |some .bool=>.beq op x y
 |some .string=>(match op with|.eql=>.teq op x y|.neq=>.teq op x y|_=>.raw (J5 o))
 |_=>.raw (J5 o)
def Jv(P:Program)(t:TypeId):Option Nat:=(P.info? t).map (·.size)
def Xq(P:Program)(t:TypeId):Option Value:=(P.info? t).bind (·.zero)
def Q8(P:Program)(mu:List Nat)(o:Oper):O:=
 match o.op with
 |.move x|.assign x=>.mv x
 |.pick c a b=>.pick c a b
 |.binOp op t x y _=>Iz P o op t x y
 |.unOp .not _ x=>.not x
 |.call { callee:=.value c,args,.. }=>.call c args
 |.call { callee:=.builtin .len,args,argTypes }=>
  (match args,argTypes with
  |⟨[x]⟩,⟨[t]⟩=>(match P.underlying t with|some (.slice _)=>.len x|some .string=>.lenT x|some (.map _ _)=>.lenM x|_=>.raw (J5 o))
  |_,_=>.raw (J5 o))
 |.convert src dst x=>(match P.underlying src,P.underlying dst with|some (.int _),some (.int k)=>.conv k x|_,_=>.raw (J5 o))
 |.fieldAddr s x i=>(match P.underlying s with
  |some (.struct f)=>(match f[i]? with
   |some fd=>(match Jv P fd.type with|some (_+1)=>.off fd.offset x|_=>.raw (J5 o))
   |none=>.raw (J5 o))
  |_=>.raw (J5 o))
 |.indexAddr t x i=>(match P.underlying t with
  |some (.slice e)=>(match Jv P e with|some n=>.idx n x i|none=>.raw (J5 o))
  |some (.array len e)=>(match Jv P e with|some n=>if len<=1 then .raw (J5 o)else .aidx len n x i|none=>.raw (J5 o))
  |_=>.raw (J5 o))
 |.index t x i=>(match P.underlying t with|some .string=>.sidx x i|_=>.raw (J5 o))
 |.load t x=>(match P.underlying t with
  |some d=>if TypeDesc.agg d then(match Jv P t with|some n=>.ldn n x|none=>.raw (J5 o))else .ld x
  |none=>.raw (J5 o))
 |.store t x v=>(match Jv P t with|some n=>.st n x v|none=>.raw (J5 o))
 |.box t x=>(match o.dst with|some d=>if mu.contains d then .boxM t x else .box t x|none=>.boxM t x)
 |.alloc t=>(match Xq P t with|some z=>.alloc t z.cells|none=>.raw (J5 o))
 |.extract x i=>.ext x i
 |.field t x i=>(match P.underlying t with
  |some (.struct f)=>(match f[i]? with
   |some fd=>(match P.underlying fd.type with
    |some d=>if TypeDesc.agg d then(match Jv P fd.type with|some n=>.part fd.offset n x|none=>.raw (J5 o))else .part1 fd.offset x
    |none=>.raw (J5 o))
   |none=>.raw (J5 o))
  |_=>.raw (J5 o))
 |.makeFunc fn first h=>.mkf fn first h
 |.nilCheck x=>.nilc x
 |.build t parts=>(match P.underlying t,Xq P t with
  |some (.struct f),some z=>if f.toList.all (λ fd=>(Jv P fd.type).isSome)then
    (match parts.toList.mapM (λ p=>(f[p.1]?).map λ fd=>(fd.offset,(Jv P fd.type).getD 0,p.2))with
    |some B=>.build z.cells B
    |none=>.raw (J5 o))else .raw (J5 o)
  |_,_=>.raw (J5 o))
 |.buildSlice t len parts=>(match P.underlying t with
  |some (.slice e)=>(match Jv P e,Xq P e with
   |some n,some z=>if len*n<=2^24 then .bsl e len (if len*n=0 then #[]else(Array.range (len*n)).map (z.cells[· % z.cells.size]!)) (parts.toList.map λ p=>(p.1*n,n,p.2))else .raw (J5 o)
   |_,_=>.raw (J5 o))
  |_=>.raw (J5 o))
 |.slice t x lo w none=>(match P.underlying t with|some (.slice e)=>(match Jv P e with|some n=>.sub3 n x lo w|none=>.raw (J5 o))|_=>.raw (J5 o))
 |_=>.raw (J5 o)
def Gw{t:TypeId}{n:Nat}(h:Jv P t=some n):∃i,P.info? t=some i/\i.size=n:=by
 simp_all[Jv]
def PF{t:TypeId}{z:Value}(h:Xq P t=some z):∃i,P.info? t=some i/\i.zero=some z:=by
 grind[Xq,Option.bind_eq_some_iff]
section
variable{f:Fm}{K:Value->Qa T->Prop}{U:Qa T}
theorem P3{op:BinOp}{t:TypeId}{x y:Operand}{k k':IntKind}{a b:Int}{Q:Unit->Qa T->Prop}(h:Q () U):Qr P (eqGuard op t x y (.int k a) (.int k' b)) Q U:=by
 cases op <;> exact h
theorem ME{op:BinOp}{t:TypeId}{x y:Operand}{a b:Bool}{Q:Unit->Qa T->Prop}(h:Q () U):Qr P (eqGuard op t x y (.bool a) (.bool b)) Q U:=by
 cases op <;> exact h
theorem BI{op:BinOp}{t:TypeId}{x y:Operand}{a b:ByteArray}{Q:Unit->Qa T->Prop}(h:Q () U):Qr P (eqGuard op t x y (.string a) (.string b)) Q U:=by
 cases op <;> exact h
def kV{op:BinOp}{t:TypeId}{x y:Operand}(h:OX S (.cmp op x y) f K U):Qr P (do eqGuard op t x y (Zj f x) (Zj f y);binOp op t (Zj f x) (Zj f y)) K U:=by
 grind[OX,Zj,Qd,P3,binOp,Op.intCmp,Qk]
def zS{t:TypeId}{x y:Operand}(h:OX S (.add x y) f K U):Qr P (do eqGuard .add t x y (Zj f x) (Zj f y);binOp .add t (Zj f x) (Zj f y)) K U:=by
 grind[OX,Qd,P3,binOp,Op.intArith,Qk,Gb]
def CT{t:TypeId}{x y:Operand}(h:OX S (.sub x y) f K U):Qr P (do eqGuard .sub t x y (Zj f x) (Zj f y);binOp .sub t (Zj f x) (Zj f y)) K U:=by
 grind[OX,Qd,P3,binOp,Op.intArith,Qk,Gb]
def Bp{t:TypeId}{x y:Operand}(h:OX S (.mul x y) f K U):Qr P (do eqGuard .mul t x y (Zj f x) (Zj f y);binOp .mul t (Zj f x) (Zj f y)) K U:=by
 grind[OX,Qd,P3,binOp,Op.intArith,Qk,Gb]
theorem Rz{t:TypeId}(f:P.underlying t=some .bool)(a b:Bool)(Q:Bool->Qa T->Prop)(U:Qa T):Qr P (Op.equal t (.bool a) (.bool b)) Q U=Q (a==b) U:=by
 have e:Op.equal t (.bool a) (.bool b)=Op.equalIn (9999+1) t (.bool a) (.bool b):=rfl;rw[e,Op.equalIn,Qd,Zg f];rfl
def pN{op:BinOp}{t:TypeId}{x y:Operand}(b:P.underlying t=some .bool)(h:OX S (.beq op x y) f K U):Qr P (do eqGuard op t x y (Zj f x) (Zj f y);binOp op t (Zj f x) (Zj f y)) K U:=by
 grind[OX,Qd,ME,binOp,Rz,Qk]
def D_{op:BinOp}{t:TypeId}{x y:Operand}(h:OX S (.teq op x y) f K U):Qr P (do eqGuard op t x y (Zj f x) (Zj f y);binOp op t (Zj f x) (Zj f y)) K U:=by
 grind[OX,Qd,BI,binOp,Op.stringOp,Qk]
def gn{op:BinOp}{t:TypeId}{x y:Operand}(h:OX S (.ar op x y) f K U):Qr P (do eqGuard op t x y (Zj f x) (Zj f y);binOp op t (Zj f x) (Zj f y)) K U:=by
 simp only[OX]at h;grind[Qd,P3,binOp,Op.intDiv,Qk,Op.intArith,Op.intBits,Op.shift]
def QZ{s:Sem Value}(h:Qr P s K U):Qr P (s >>= λ v=>pure (Next.value v)) (ZN S K) U:=by rw[Qd];exact h
def My{c:Operand}{args:Array Operand}{z:Array TypeId}{N:TypeId}{ρ:Operand->Value}(E:∀x,ρ x=Zj f x)(h:OX S (.call c args) f K U) :
  Qr P (do let d <- resolve ρ { callee:=.value c,args:=args,argTypes:=z } N;invoke d.target d.args:Sem Next) (ZN S K) U:=by
 simp only[OX]at h;have G:args.map ρ=args.map (Zj f):=by rw[show ρ=Zj f from funext E]
 split at h
 .rename_i g first capt e
  obtain⟨B,h⟩:=h;simp only[Qd,resolve,E,G,e,Deferred.ofValue,Qk,invoke,callFunc,program,Qr];cases F:P.funcs[g]? with
  |none=>simp[F]at B
  |some fd=>
   simp only[F,Option.any_some,Bool.and_eq_true,bne_iff_ne,ne_eq]at B;obtain⟨Q,H⟩:=B;have w:fd.body.isNone=false:=by cases I:fd.body <;> simp_all
   have b:(fd.name== "runtime.NumGoroutine")=false:=by simpa using H
   simp only[b,w,Bool.false_eq_true,if_false,Qk,ZN];rw[J8]at h;have e:(first++Array.map (Zj f) args)++capt=(first.toList++args.toList.map (Zj f)++capt.toList).toArray:=by apply Array.ext';simp
   rw[e];exact h.sep λ v U' M L=>⟨U',.refl _,L M⟩
 .rename_i l first capt e
  rw[J8]at h;simp only[Qd,resolve,E,G,e,Deferred.ofValue,Qk,invoke];have e:first++Array.map (Zj f) args=(first.toList++args.toList.map (Zj f)).toArray:=by apply Array.ext';simp
  rw[e];exact h
 .exact h.elim
theorem G7{k:IntKind}{i:Int}{y n:Nat}{code:BoundsCode}(b:i=n)(h:n<=y){Q:Nat->Qa T->Prop}(e:Q n U):Qr P (Instr.sliceBound (.int k i) y code) Q U:=by
 subst b;unfold Instr.sliceBound;rw[Qd];show Qr P (if 0<=(n:Int)/\(n:Int)<=y then pure (n:Int).toNat else boundsPanic k n y code) Q U;rw[if_pos O1];exact e
theorem qe{len cap:Nat}{Q:Nat×Nat×Nat->Qa T->Prop}(b:Q (0,len,cap) U):Qr P (Instr.sliceBounds true len cap none none none) Q U:=by
 grind[Instr.sliceBounds,Qd,Qk]
theorem zm{len cap l:Nat}{k:IntKind}{i:Int}(b:i=l)(h:l<=len){Q:Nat×Nat×Nat->Qa T->Prop}(e:Q (l,len,cap) U):Qr P (Instr.sliceBounds true len cap (some (.int k i)) none none) Q U:=by
 grind[Instr.sliceBounds,Qd,Qk,G7]
theorem yE{len cap h:Nat}{k:IntKind}{i:Int}(e:i=h)(b:h<=cap){Q:Nat×Nat×Nat->Qa T->Prop}(f:Q (0,h,cap) U):Qr P (Instr.sliceBounds true len cap none (some (.int k i)) none) Q U:=by
 grind[Instr.sliceBounds,Qd,Qk,G7]
theorem Cv{len cap l h:Nat}{k k':IntKind}{i b:Int}(z:i=l)(e:b=h)(f:l<=h)(w:h<=cap){Q:Nat×Nat×Nat->Qa T->Prop}(B:Q (l,h,cap) U):Qr P (Instr.sliceBounds true len cap (some (.int k i)) (some (.int k' b)) none) Q U:=by
 grind[Instr.sliceBounds,Qd,Qk,G7]
theorem h_{len cap l b:Nat}{lo f:Option Value}(e:OP len lo f=some ((l:Int),(b:Int)))(h:l<=b)(w:b<=cap){Q:Nat×Nat×Nat->Qa T->Prop}(z:Q (l,b,cap) U) :
  Qr P (Instr.sliceBounds true len cap lo f none) Q U:=by
 unfold OP at e;grind[Option.some.injEq,Prod.mk.injEq,qe,zm,yE,Cv]
def B_{t e:TypeId}{n:Nat}{x:Operand}{lo b:Option Operand}(B:P.underlying t=some (.slice e))(I:Jv P e=some n)(h:OX S (.sub3 n x lo b) f K U) :
  Qr P (Instr.sliceAt t (Zj f x) (lo.map (Zj f)) (b.map (Zj f)) none) K U:=by
 obtain⟨E,w,z⟩:∃i,P.info? e=some i/\i.size=n:=by simp_all[Jv]
 simp only[OX]at h;split at h
 .rename_i sa len cap e1;split at h
  .rename_i li hh hsb;obtain⟨l,H,⟨rfl,rfl,F,G⟩,h⟩:=h;simp only[e1,Instr.sliceAt,Instr.slice,Qd,Zg B];grind[h_,Jh,Qk]
  .exact h.elim
 .exact h.elim
def AM{t e:TypeId}{n:Nat}{x i:Operand}(B:P.underlying t=some (.slice e))(H:Jv P e=some n)(h:OX S (.idx n x i) f K U):Qr P (Instr.indexAt t (Zj f x) (Zj f i)) K U:=by
 obtain⟨E,w,z⟩:∃i,P.info? e=some i/\i.size=n:=by simp_all[Jv]
 simp only[OX]at h;split at h
 .rename_i aa len cap k m e1 e2;obtain⟨F,j,⟨rfl,rfl,G⟩,h⟩:=h;have b:(0:Int)<=(j:Int)/\(j:Int)<(len:Int):=O1
  simp only[e1,e2,Instr.indexAt,asIntOf,Qd,Qk,Zg B];simp_all[if_pos,Qd,Jh,Qk,Int.toNat_natCast]
 .exact h.elim
def Ci{t e:TypeId}{len n:Nat}{x i:Operand}(B:P.underlying t=some (.array len e))(G:Jv P e=some n)(h:OX S (.aidx len n x i) f K U):Qr P (Instr.indexAt t (Zj f x) (Zj f i)) K U:=by
 obtain⟨E,w,z⟩:∃i,P.info? e=some i/\i.size=n:=by simp_all[Jv]
 simp only[OX]at h;split at h
 .rename_i ad k m e1 e2;obtain⟨j,⟨rfl,F⟩,h⟩:=h;have b:(0:Int)<=(j:Int)/\(j:Int)<(len:Int):=O1
  simp only[e1,e2,Instr.indexAt,asIntOf,Qd,Qk,Zg B,Instr.sureAddr];simp_all[if_pos,Qd,Jh,Qk,Int.toNat_natCast]
 .exact h.elim
def oV{t:TypeId}{x i:Operand}(w:P.underlying t=some .string)(h:OX S (.sidx x i) f K U):Qr P (Instr.index t (Zj f x) (Zj f i)) K U:=by
 simp only[OX]at h;split at h
 .rename_i s k n e1 e2;obtain⟨j,b,⟨rfl,e⟩,h⟩:=h;simp_all[Instr.index,asIntOf,Qd,Qk,Zg,if_pos,Int.toNat_natCast]
 .exact h.elim
def FL{α β:Type}(g:α->Sem β)(v:α->β):∀(l:List α)(acc:Array β)(Q:Array β->Qa T->Prop)(U:Qa T),(∀a∈l,∀(Q:β->Qa T->Prop)U,Qr P (g a) Q U=Q (v a) U)->Q (acc++(l.map v).toArray) U->Qr P (X5 g l acc) Q U
 |[],acc,Q,U,_,h=>by grind[X5,Qk]
 |x::l,acc,Q,U,b,h=>by
  simp only[X5,Qd,b x (mem_cons_self ..)];refine FL g v l _ Q U (λ a f=>b a (mem_cons_of_mem _ f)) ?_;have e:acc.push (v x)++(l.map v).toArray=acc++((x::l).map v).toArray:=by apply Array.ext';simp
  rw[e];exact h
def o_{e:Array Field}(b:e.toList.all (λ fd=>(Jv P fd.type).isSome)=true){Q:Array (Nat×Nat)->Qa T->Prop}(h:Q (e.map λ fd=>(fd.offset,(Jv P fd.type).getD 0)) U) :
  Qr P (e.mapM λ fd=>do pure (fd.offset,<- sizeOf fd.type)) Q U:=by
 obtain⟨l⟩:=e;rw[Ta];refine FL _ (λ fd=>(fd.offset,(Jv P fd.type).getD 0)) l #[] Q U (λ fd f Q U=>?_) (by simpa using h);have:=all_eq_true.1 b fd f;obtain⟨n,z⟩:=Option.isSome_iff_exists.1 this;obtain⟨E,B,w⟩:∃i,P.info? fd.type=some i/\i.size=n:=by simpa[Jv]using z
 simp only[Qd,Jh B,Qk,z,w,Option.getD_some]
def Du:∀(vs:List Value)(cells:Array Value)(off j:Nat),(vs.zipIdx j).foldl (λ cs(p:Value×Nat)=>cs.setIfInBounds (off+p.2) p.1) cells=JX cells off vs j
 |[],_,_,_=>rfl
 |v::r,cells,off,j=>by simp only[zipIdx_cons,foldl_cons,JX];exact Du r _ off (j+1)
def SU(place:Nat->Option (Nat×Nat))(f:Fm):∀(parts:List (Nat×Operand))(b:List (Nat×Nat×Operand))(cells:Array Value),
  parts.mapM (λ p=>(place p.1).map λ q=>(q.1,q.2,p.2))=some b->Instr.fill place cells (parts.map λ p=>(p.1,Zj f p.2))=PT f cells b
 |[],b,cells,h=>by simp at h;subst h;rfl
 |(i,x)::r,b,cells,h=>by
  simp only[mapM_cons,Option.pure_def,Option.bind_eq_bind,Option.bind_eq_some_iff,Option.map_eq_some_iff]at h;obtain⟨_,⟨⟨off,size⟩,B,rfl⟩,z,w,e⟩:=h;cases e;simp only[map_cons,Instr.fill,B,PT];split
  .rfl
  .rw[<- SU place f r z _ w];congr 1;rw[<- Du,<- Array.foldl_toList,Array.toList_zipIdx]
def Jn.cells{a:Addr}{vs:List Value}(h:Jn U a vs){Q:Array Value->Qa T->Prop}(e:Q vs.toArray U):Qr P (loadCells a vs.length) Q U:=
 EC vs 0 #[] (λ j v b=>by simpa using h j v b) (by simpa using e)
end
def Ap(cs:Array Value)(off n:Nat):cs.extract off (off+n)=((cs.toList.drop off).take n).toArray:=by
 grind
def W2{o:Oper}{mu:List Nat}{a:Act}{f:Fm}(w:∀x,a.eval x=Zj f x){K:Value->Qa T->Prop}{U:Qa T}
  (L:∀v U U',Qw U U'->K v U'->K v U) (h:OX S (Q8 P mu o) f K U):QN S o a K U:=by
 obtain⟨dst,op,ty,pos,after,guard⟩:=o
 have raw:∀o:Oper,OX S (.raw (J5 o)) f K U->Qr P (execOp a.eval o) (ZN S K) U:=λ o h=>Qr.mono _ (h a w) λ n U Y=>by
  have Z:∀v(U:Qa T),(∃I,Qw U I/\K v I)->K v U:=λ v U⟨I,B,Z⟩=>L v U I B Z;cases n <;> first|exact Z _ _ Y|exact Qb.mono Y Z|exact WI.mono Y Z|exact Y
 unfold QN;cases op with
 |move x=>simp only[Q8,OX,Qz]at h;simp only[execOp,w,Qk,ZN];exact h
 |assign x=>simp only[Q8,OX,Qz]at h;simp only[execOp,w,Qk,ZN];exact h
 |pick c x y=>
  simp only[Q8,OX]at h;simp only[execOp,w];split at h
  .rename_i e;rw[Qz]at h;simp only[e,Qd,asBool,Qk,ZN,if_true];exact h
  .rename_i e;rw[Qz]at h;simp only[e,Qd,asBool,Qk,ZN,Bool.false_eq_true,if_false];exact h
  .exact h.elim
 |binOp ak t x y yt=>
  simp only[Q8,Iz]at h;simp only[execOp,w];split at h
  .split at h
   .exact QZ (kV h)
   .split at h
    .exact QZ (zS h)
    .exact QZ (CT h)
    .exact QZ (Bp h)
    .exact QZ (gn h)
  .rename_i e;exact QZ (pN e h)
  .split at h
   .exact QZ (D_ h)
   .exact QZ (D_ h)
   .have:=raw _ h;simpa only[execOp,w]using this
  .have:=raw _ h;simpa only[execOp,w]using this
 |unOp ag t x=>
  cases ag with
  |not=>
   simp only[Q8,OX]at h;simp only[execOp,w];split at h
   .rename_i e;simp only[e];exact QZ h
   .exact h.elim
  |_=>exact raw _ h
 |call c=>
  obtain⟨callee,args,aj⟩:=c;cases callee with
  |value g=>exact My w h
  |invoke r al=>exact raw _ h
  |builtin b=>
   cases b with
   |len=>
    simp only[Q8]at h;split at h
    .rename_i x t;split at h
     .rename_i e hu;simp only[OX]at h;split at h
      .rename_i Q;simp only[execOp,Qd,resolve,Qk,invoke,builtin,Builtin.len_];simp only[map_toArray,map_cons,map_nil,w,Q,getElem?_toArray,getElem?_cons_zero,Qd,Zg hu,Qk,ZN,goInt];exact h
      .exact h.elim
     .rename_i hu;simp only[OX]at h;split at h
      .rename_i Q;simp only[execOp,Qd,resolve,Qk,invoke,builtin,Builtin.len_];simp only[map_toArray,map_cons,map_nil,w,Q,getElem?_toArray,getElem?_cons_zero,Qd,Zg hu,Qk,ZN,goInt];exact h
      .exact h.elim
     .rename_i kk ee hu;simp only[OX]at h;split at h
      .rename_i Q;simp only[execOp,Qd,resolve,Qk,invoke,builtin,Builtin.len_];simp only[map_toArray,map_cons,map_nil,w,Q,getElem?_toArray,getElem?_cons_zero,Qd,Zg hu,Qk,ZN,goInt];exact h
      .rename_i r Q;obtain⟨es,aa,hh,h⟩:=h;simp only[execOp,Qd,resolve,Qk,invoke,builtin,Builtin.len_];simp only[map_toArray,map_cons,map_nil,w,Q,getElem?_toArray,getElem?_cons_zero,Qd,Zg hu,getObj];exact⟨_,hh,rfl,rfl,h⟩
      .exact h.elim
     .exact raw _ h
    .exact raw _ h
   |_=>exact raw _ h
 |convert src dt x=>
  simp only[Q8]at h;split at h
  .rename_i k1 k hu hu';simp only[OX]at h;split at h
   .rename_i k2 n e;simp only[execOp,w,e];refine QZ ?_;simp only[convert,Qd,Zg hu,Zg hu',Conv.intToInt,Qk];exact h
   .exact h.elim
  .exact raw _ h
 |fieldAddr s x i=>
  simp only[Q8]at h;split at h
  .rename_i fs hu;split at h
   .rename_i fd hfd;split at h
    .rename_i n B;obtain⟨H,G,E⟩:=Gw B;simp only[OX]at h;split at h
     .rename_i ad e;simp only[execOp,w,e];refine QZ ?_;simp only[Instr.fieldAt,Qd,Zg hu,hfd,Instr.sureAddr,Qk,fieldPlace,Jh G,E];simpa[Qk]using h
     .exact h.elim
    .exact raw _ h
   .exact raw _ h
  .exact raw _ h
 |indexAddr t x i=>
  simp only[Q8]at h;split at h
  .rename_i e hu;split at h
   .rename_i n B;simp only[execOp,w];exact QZ (AM hu B h)
   .exact raw _ h
  .rename_i len e hu;split at h
   .rename_i n B;split at h
    .exact raw _ h
    .simp only[execOp,w];exact QZ (Ci hu B h)
   .exact raw _ h
  .exact raw _ h
 |index t x i=>
  simp only[Q8]at h;split at h
  .rename_i hu;simp only[execOp,w];exact QZ (oV hu h)
  .exact raw _ h
 |load t x=>
  simp only[Q8]at h;split at h
  .rename_i d hu;split at h
   .rename_i hag;split at h
    .rename_i n B;obtain⟨H,G,E⟩:=Gw B;simp only[OX]at h;split at h
     .rename_i ad e;obtain⟨vs,⟨hl,hr⟩,h⟩:=h;simp only[execOp,w,e];refine QZ ?_;simp only[Instr.loadAt,Instr.sureAddr,Qd,Qk,loadVar,Hi hu,hag,if_true,Jh G,E,<- hl];exact hr.cells h
     .exact h.elim
    .exact raw _ h
   .rename_i hag;simp only[OX]at h;split at h
    .rename_i ad e;obtain⟨v,B,h⟩:=h;rw[Qz]at h;simp only[execOp,w,e];refine QZ ?_;simp only[Instr.loadAt,Instr.sureAddr,Qd,Qk,loadVar,Hi hu,hag,Bool.false_eq_true,if_false];exact OF B h
    .exact h.elim
  .exact raw _ h
 |store t x v=>
  simp only[Q8]at h;split at h
  .rename_i n B;obtain⟨H,G,E⟩:=Gw B;simp only[OX]at h;split at h
   .rename_i ad e;obtain⟨Y,h⟩:=h;simp only[execOp,w,e];rw[Qd];simp only[Instr.storeAt,Instr.sureAddr,Qd,Qk,storeVar,Jh G,E,Y,ne_eq,not_true_eq_false,if_false];exact GR _ 0 U (ZA.mono (λ U'⟨I,h1,h2⟩=>L _ _ _ h1 h2) _ _ _ h)
   .exact h.elim
  .exact raw _ h
 |box t x=>
  have key:(∀b,U.free b->K (.pointer (some ⟨b,0,none⟩)) (U.put b (.cells (Zj f x).cells t)))->Qr P (execOp a.eval ⟨dst,.box t x,ty,pos,after,guard⟩) (ZN S K) U:=by
   intro h;simp only[execOp,w];refine QZ ?_;simp only[Instr.box,newVar,Qd];refine Jk λ b X=>?_;simp only[Qk];exact h b X
  simp only[Q8]at h;split at h
  .split at h
   .exact key h
   .exact key λ b X=>L _ _ _ (We (U:=U.put b (.cells (Zj f x).cells t)) (b:=b) (o:=.cells (Zj f x).cells t) (M':=U.M) (Perm.refl _)) ((by simpa only[OX,SH]using h:∀b I,U.le I->Zi I b (Zj f x).cells->K (.pointer (some ⟨b,0,none⟩)) I) b _ (GF X) Zi.new)
  .exact key h
 |alloc t=>
  simp only[Q8]at h;split at h
  .rename_i z hz;obtain⟨H,G,N⟩:=PF hz;simp only[execOp];refine QZ ?_;simp only[Instr.alloc,newVar,Qd,XN G N];refine Jk λ b X=>?_;simp only[Qk];obtain⟨I,B,h⟩:=h b X;exact L _ _ _ B h
  .exact raw _ h
 |extract x i=>
  simp only[Q8,OX]at h;simp only[execOp,w];refine QZ ?_;split at h
  .rename_i vs e;split at h
   .rename_i v hv;rw[Qz]at h;simp only[e,Instr.extract,hv,Qk];exact h
   .exact h.elim
  .exact h.elim
 |field t x i=>
  simp only[Q8]at h;split at h
  .rename_i fs hu;split at h
   .rename_i fd hfd;split at h
    .rename_i d hd;split at h
     .rename_i hag;split at h
      .rename_i n B;obtain⟨H,G,E⟩:=Gw B;simp only[OX]at h;split at h
       .rename_i cs e;simp only[execOp,w,e];refine QZ ?_;simp only[Instr.field,Qd,Zg hu,hfd,asAgg,Qk,part,Hi hd,hag,if_true,Jh G,E];rw[Ap];exact h
       .exact h.elim
      .exact raw _ h
     .rename_i hag;simp only[OX]at h;split at h
      .rename_i cs e;split at h
       .rename_i v hv;rw[Qz]at h;simp only[execOp,w,e];refine QZ ?_;simp only[Instr.field,Qd,Zg hu,hfd,asAgg,Qk,part,Hi hd,hag,Bool.false_eq_true,if_false,hv];exact h
       .exact h.elim
      .exact h.elim
    .exact raw _ h
   .exact raw _ h
  .exact raw _ h
 |makeFunc fn first ah=>
  simp only[Q8,OX,J8]at h;have e:a.eval=Zj f:=funext w;simp only[execOp,e];have e1:∀l:Array Operand,l.map (Zj f)=(l.toList.map (Zj f)).toArray:=λ l=>by apply Array.ext';simp
  rw[e1,e1];exact QZ h
 |nilCheck x=>
  simp only[Q8,OX]at h;simp only[execOp,w];split at h
  .rename_i ad e;simp only[e];exact QZ (s:=pure (.pointer (some ad))) h
  .exact h.elim
 |build t parts=>
  simp only[Q8]at h;split at h
  .rename_i fs z hu hz;split at h
   .rename_i hall;split at h
    .rename_i ps hps;obtain⟨H,G,N⟩:=PF hz;simp only[OX,HS,Array.toArray_toList]at h;split at h
     .rename_i cells hc;simp only[execOp,w];refine QZ ?_;simp only[Instr.build,Qd,XN G N,Zg hu];refine o_ hall ?_
      have ab:Instr.fill ((fs.map λ fd=>(fd.offset,(Jv P fd.type).getD 0))[·]?) z.cells ((parts.map λ p=>(p.1,Zj f p.2)).toList)=some cells:=by
       rw[<- hc,Array.toList_map];refine SU _ f parts.toList ps z.cells ?_;rw[<- hps];congr 1;funext p;simp only[Array.getElem?_map];cases fs[p.1]? <;> rfl
      simp only[ab,Qk];exact h
     .exact h.elim
    .exact raw _ h
   .exact raw _ h
  .exact raw _ h
 |buildSlice t len parts=>
  simp only[Q8]at h;split at h
  .rename_i e hu;split at h
   .rename_i n z B hz;split at h
    .rename_i hle;obtain⟨H,G,N⟩:=PF hz;obtain⟨ai,ae,E⟩:=Gw B;simp only[OX,HS,Array.toArray_toList]at h;split at h
     .rename_i cells hc
      have ac:Instr.fill (λ i=>some (i*n,n)) (if len*n=0 then #[]else(Array.range (len*n)).map (z.cells[· % z.cells.size]!)) ((parts.map λ p=>(p.1,Zj f p.2)).toList)=some cells:=by
       rw[<- hc,Array.toList_map];refine SU _ f parts.toList _ _ ?_;generalize parts.toList=l
       induction l with
       |nil=>rfl
       |cons p l ih=>rw[mapM_cons,ih];rfl
      simp only[execOp,w];refine QZ ?_;simp only[Instr.buildSlice,Qd,Zg hu,Jh ae,E];rw[if_neg O1]
      have last:∀(V:String)(F:Array Value),F=(if len*n=0 then #[]else(Array.range (len*n)).map (z.cells[· % z.cells.size]!)) ->
        Qr P (do
         let some cells:=Instr.fill (λ i=>some (i*n,n)) ((Array.range (len*n)).map (λ k=>(if len*n=0 then #[]else z.cells)[k % (if len*n=0 then #[]else z.cells).size]!)) ((parts.map λ p=>(p.1,Zj f p.2)).toList)|stuck V
         pure (.slice (some (<- newRow e cells)) len len):Sem Value) K U:=by
       intro V F _
       have Q:(Array.range (len*n)).map (λ k=>(if len*n=0 then #[]else z.cells)[k % (if len*n=0 then #[]else z.cells).size]!)=(if len*n=0 then #[]else(Array.range (len*n)).map (z.cells[· % z.cells.size]!)):=by
        split
        .rename_i W;simp[W]
        .rfl
       rw[Q,ac];simp only[Qd];refine Jk λ b X=>?_;simp only[Qk];obtain⟨I,af,h⟩:=h b X;exact L _ _ _ af h
      have:=λ V=>last V _ rfl;by_cases W:len*n=0
      .rw[if_pos W];simp only[W,if_true]at this;simp only[W,Qk];exact this _
      .rw[if_neg W];simp only[W,if_false]at this;simp only[Qd,XN G N,Qk];exact this _
     .exact h.elim
    .exact raw _ h
   .exact raw _ h
  .exact raw _ h
 |slice t x lo G mx=>
  cases mx with
  |some _=>exact raw _ h
  |none=>
   simp only[Q8]at h;split at h
   .rename_i e hu;split at h
    .rename_i n B;simp only[execOp,show a.eval=Zj f from funext w];exact QZ (B_ hu B h)
    .exact raw _ h
   .exact raw _ h
 |_=>exact raw _ h
structure St where
 o:O
 dst:Option Nat
 g:Option (Nat×Bool)
 dfr:Option (Operand×Array Operand):=none
abbrev St.d(n:Nat)(o:O):St:=⟨o,some n,none,none⟩
abbrev St.m(n k:Nat):St:=⟨.mv (.tmp k),some n,none,none⟩
abbrev St.u(n j:Nat)(b:Bool)(o:O):St:=⟨o,some n,some (j,b),none⟩
abbrev Zm(T:Type):=Fm->List Deferred->Qa T->Prop
def GB(b e:Bool)(A B:Prop):Prop:=
 match b,e with
 |true,true=>A
 |false,false=>A
 |true,false=>B
 |false,true=>B
def Zr{b e:Bool}{A B:Prop}(h:b=e->A)(f:b=!e->B):GB b e A B:=by
 cases b <;> cases e <;> first|exact h rfl|exact f rfl
def CB(b:Bool)(A B:Prop):Prop:=
 match b with
 |true=>A
 |false=>B
def Qe{b:Bool}{A B:Prop}(h:b=true->A)(e:b=false->B):CB b A B:=by cases b <;> first|exact h rfl|exact e rfl
def P2(S:Sys P T)(ro:Option Nat)(st:St)(w:Zm T->Zm T)(K:Zm T):Zm T:=λ f ds U=>
  match st.g with
  |some (j,e)=>(match f j with
   |.bool b=>GB b e (OX S st.o (JH f j (.bool e)) (λ v U'=>w K (ZD (JH f j (.bool e)) st.dst v) ds U') U)
     (w K (ZD (JH f j (.bool !e)) st.dst undef) ds U)
   |.tuple _=>w K (ZD f st.dst undef) ds U
   |_=>False)
  |none=>(match st.dfr with
   |some (c,args)=>(match Zj f c with
    |.func fn first h=>ro=none/\w K (ZD f st.dst undef) ({ target:=.fn fn h,args:=first++args.map (Zj f) }::ds) U
    |_=>False)
   |none=>OX S st.o f (λ v U'=>w K (ZD f st.dst v) ds U') U)
def JW(S:Sys P T)(ro:Option Nat)(l:List St):Zm T->Zm T:=List.rec (motive:=λ _=>Zm T->Zm T) (λ K=>K) (λ st _ b=>P2 S ro st b) l
def Si(S:Sys P T)(ro:Option Nat)(st:St)(r:List St)(K:Zm T):JW S ro (st::r) K=P2 S ro st (JW S ro r) K:=rfl
def VH(S:Sys P T)(G:Qa T->Prop)(kd:Nat)(st:St)(B:(Qa T->Prop)->Zm T->Zm T)(C:Qa T->Prop)(K:Zm T):Zm T:=λ f ds U=>
  let run (f:Fm):Prop:=match kd with
   |0=>OX S st.o f (λ v _=>B C K (ZD f st.dst v) ds U) U
   |1=>∃v,(∀U',U.le U'->C U'->OX S st.o f (λ z w=>z=v/\∃e,Qw w e/\U'.le e) U')/\B C K (ZD f st.dst v) ds U
   |3=>∃v,(∀U',U.le U'->C U'->OX S st.o f (λ z w=>z=v/\∃e,Qw w e/\U'.le e) U')/\(∀U',G U'->OX S st.o f (λ z w=>z=v/\∃e,Qw w e/\U'.le e) U')/\B C K (ZD f st.dst v) ds U
   |_=>∃F:Value->Qa T->Prop,(∀v,XM (F v))/\(∀U',U.le U'->C U'->OX S st.o f (λ z w=>∃e,Qw w e/\F z e/\U'.le e) U') /\
     ∀v,(∃U',U.le U'/\C U'/\F v U')->B (λ U'=>C U'/\F v U') K (ZD f st.dst v) ds U
  match st.g with
  |some (j,h)=>(match f j with
   |.bool b=>GB b h (run (JH f j (.bool h))) (B C K (ZD (JH f j (.bool !h)) st.dst undef) ds U)
   |.tuple _=>B C K (ZD f st.dst undef) ds U
   |_=>False)
  |none=>run f
def DX(S:Sys P T)(G:Qa T->Prop)(l:List (Nat×St)):(Qa T->Prop)->Zm T->Zm T:=
 List.rec (motive:=λ _=>(Qa T->Prop)->Zm T->Zm T) (λ C K f ds U=>∀U',U.le U'->C U'->K f ds U') (λ p _ b=>VH S G p.1 p.2 b) l
def UX(S:Sys P T)(G:Qa T->Prop)(kd:Nat)(st:St)(r:List (Nat×St)):DX S G ((kd,st)::r)=VH S G kd st (DX S G r):=rfl
def M6(S:Sys P T)(G:Qa T->Prop)(st:St)(K:Zm T):Zm T:=λ f ds U=>
 OX S st.o f (λ h e=>h=undef/\∃b,Qw e b/\G b) U/\∀U',G U'->K (ZD f st.dst undef) ds U'
def ovr:List (Nat×Value)->Fm->Fm
 |[],f=>f
 |p::l,f=>JH (ovr l f) p.1 p.2
def XF(f:Fm)(l:List (Nat×Value)):Prop:=List.rec (motive:=λ _=>Prop) True (λ p _ b=>f p.1=p.2/\b) l
def Kz{f:Fm}{d:Nat}{v:Value}(h:f d=v):JH f d v=f:=by
 funext t;grind[JH,Nat.beq,Nat.eq_of_beq_eq_true]
def XF.ovr{f:Fm}:∀{l:List (Nat×Value)},XF f l->ovr l f=f
 |[],_=>rfl
 |(d,v)::l,h=>by
  show JH (TM.ovr l f) d v=f;rw[XF.ovr h.2];exact Kz h.1
structure FR(N:Nat)(a:Act)(f:Fm)(ds:List Deferred):Prop where
 ds:a.defers=ds
 size:a.tmps.size=N
 get:∀t,a.tmps.getD t undef=f t
def FR.eval{N:Nat}{a:Act}{f:Fm}{ds:List Deferred}(h:FR N a f ds)(x:Operand):a.eval x=Zj f x:=by
 cases x with
 |tmp t=>exact h.get t
 |_=>rfl
theorem FR.put{N:Nat}{a:Act}{f:Fm}{ds:List Deferred}(h:FR N a f ds)(dst:Option Nat)(v:Value)(z:∀d,dst=some d->d<N):FR N (a.put dst v) (ZD f dst v) ds:=by
 cases dst with
 |none=>exact h
 |some d=>
  have b:=z d rfl;refine⟨h.ds,by simpa[Act.put]using h.size,λ t=>?_⟩;simp only[Act.put,ZD,JH,Array.getD_eq_getD_getElem?,Array.getElem?_setIfInBounds];by_cases e:d=t
  .subst e;have:d<a.tmps.size:=by rw[h.size];exact b
   simp[this]
  .have e':Nat.beq t d=false:=by cases w:Nat.beq t d with|false=>rfl|true=>exact absurd (Nat.eq_of_beq_eq_true w).symm e
   have:=h.get t;simp_all
def FR.slot{N:Nat}{a:Act}{f:Fm}{ds:List Deferred}(h:FR N a f ds){d:Nat}{b:Bool}(e:f d=.bool b):a.tmps[d]?=some (.bool b):=by
 have:=h.get d;rw[e,Array.getD_eq_getD_getElem?]at this;cases w:a.tmps[d]? with
 |none=>rw[w]at this;cases this
 |some v=>simp_all
inductive C where
 |skip
 |seq (x y:C)
 |ite (c:Operand) (x y:C)
 |block (id:Nat) (b:C)
 |loop (b:C)
 |exit (id:Nat)
 |ret
 |scope (b:C)
 |reg (l:List St)
 |drw (qs:List (Nat×St)) (ts:List St)
 |drs (qs:List (Nat×St)) (st:St) (ts:List St)
 |rng (N:Nat) (mu dets:List Nat) (f:Operand) (params:Array Tmp) (assign body:C)
 |cd (N:Nat) (c:Code)
 |bad
def Jj(P:Program)(mu:List Nat)(ops:Array Oper)(o:Oper):Option St:=
 match o.op,o.guard with
 |.defer { callee:=.value c,args,.. },none=>some ⟨.mv c,o.dst,none,some (c,args)⟩
 |.defer _,_=>none
 |_,none=>some ⟨Q8 P mu o,o.dst,none,none⟩
 |_,some (j,w)=>(match(ops[j]?).bind (·.dst)with
  |some d=>some ⟨Q8 P mu o,o.dst,some (d,w),none⟩
  |none=>none)
def stable:O->Bool
 |.mv _|.pick ..|.add ..|.sub ..|.mul ..|.cmp ..|.beq ..|.ar ..|.teq ..|.not _|.len _|.lenT _|.conv ..|.off ..|.idx ..|.aidx ..|.sidx ..|.ld _|.ldn ..|.ext ..|.part ..|.part1 ..|.mkf ..|.nilc _|.sub3 ..|.build ..=>true
 |_=>false
def GO:O->Bool
 |.ld _|.ldn ..=>true
 |_=>false
def NZ:O->Bool
 |.st ..=>true
 |_=>false
def Gn(N:Nat)(o:Oper):Bool:=match o.dst with|some d=>decide (d<N)|none=>true
def Pw(ops:Array Oper)(b:Nat->Bool):Nat->List Nat->List Nat->List Nat
 |0,_,done=>done
 |n+1,left,done=>
  let ready:=left.filter λ i=>(Wx ops i).all done.contains
  match ready.find? (λ i=>!b i)with
  |some i=>Pw ops b n (left.filter (· != i)) (done++[i])
  |none=>(match ready with
   |i::_=>Pw ops b n (left.filter (· != i)) (done++[i])
   |[]=>done)
def W8(ops:Array Oper):Nat->Nat
 |0=>0
 |k+1=>if(range k).all (λ j=>((W_ ops ops.size).getD k 0).testBit j)then W8 ops k else k+1
def Xg(P:Program)(mu dets:List Nat)(ops:Array Oper)(i:Nat):Bool:=
 match ops[i]? with
 |some o=>!stable (Q8 P mu o)&&!((o.dst.map dets.contains).getD false)
 |none=>false
def KZ(P:Program)(mu:List Nat)(ops:Array Oper)(rl:List Nat)(i:Nat):Nat:=
 if rl.contains i then 2 else match ops[i]? with
  |some o=>if stable (Q8 P mu o)then 0 else 1
  |none=>1
def Vl(ops:Array Oper)(x j:Nat):Bool:=!((W_ ops ops.size).getD x 0).testBit j
def Pn(P:Program)(mu:List Nat)(ops:Array Oper)(rl:List Nat)(x i:Nat):Nat:=
 if rl.contains i then 2 else match ops[i]? with
  |some o=>if stable (Q8 P mu o)&&(!GO (Q8 P mu o)|| !Vl ops x i)then 0 else if Vl ops x i then 3 else 1
  |none=>3
def YL(P:Program)(mu:List Nat)(N:Nat)(dets:List Nat)(ops:Array Oper)(e:Bool):C:=
 if !ops.all (Gn N)then .bad else
 match e with
 |false=>(match(range ops.size).mapM (λ i=>(ops[i]?).bind (Jj P mu ops))with|some l=>.reg l|none=>.bad)
 |true=>
  let k:=W8 ops ops.size
  let qs:=Pw ops (Xg P mu dets ops) ops.size (range k) []
  let ts:=(range ops.size).drop k
  let rl:=(range k).filter (Xg P mu dets ops)
  if !PB ops rl qs ts|| !rl.all (λ i=>((ops[i]?).map (·.guard.isNone)).getD true)then .bad else
  match qs.getLast?.bind λ x=>((ops[x]?).bind (Jj P mu ops)).bind λ st=>if rl.contains x&&NZ st.o&&st.g.isNone&&st.dfr.isNone then some (x,st)else none with
  |some (x,st)=>(match qs.dropLast.mapM (λ i=>((ops[i]?).bind (Jj P mu ops)).map λ st=>(Pn P mu ops rl x i,st)),ts.mapM (λ i=>(ops[i]?).bind (Jj P mu ops))with
   |some a,some b=>if a.all (λ x=>x.2.dfr.isNone)then .drs a st b else .bad
   |_,_=>.bad)
  |none=>
  match qs.mapM (λ i=>((ops[i]?).bind (Jj P mu ops)).map λ st=>(KZ P mu ops rl i,st)),ts.mapM (λ i=>(ops[i]?).bind (Jj P mu ops))with
  |some a,some b=>if a.all (λ x=>x.2.dfr.isNone)then .drw a b else .bad
  |_,_=>.bad
def RZ:Op->Bool
 |.go _=>true
 |_=>false
def Cx:Op->Bool
 |.mapEntry ..=>true
 |_=>false
def DT(ops:Array Oper):Bool:=ops.any λ o=>RZ o.op|| Cx o.op
def clean(P:Program)(mu:List Nat)(N:Nat)(dets:List Nat):Code->C
 |.skip=>.skip
 |.label _=>.skip
 |.seq a b=>.seq (clean P mu N dets a) (clean P mu N dets b)
 |.cond c a b=>.ite c (clean P mu N dets a) (clean P mu N dets b)
 |.block id b=>.block id (clean P mu N dets b)
 |.loop b=>.loop (clean P mu N dets b)
 |.exit i=>.exit i
 |.ret=>.ret
 |.scope b=>.scope (clean P mu N dets b)
 |.region id ops d=>if DT ops|| mu.contains (1000+id)then .cd N (.region id ops d)else match YL P mu N dets ops d with
  |.bad=>.cd N (.region id ops d)
  |c=>c
 |.rangeFunc f h as e=>.rng N mu dets f h (clean P mu N dets as) (clean P mu N dets e)
 |.goto _=>.bad
 |.refuse _=>.bad
def yU(b:Zm T->(Nat->Zm T)->Zm T->Zm T)(x:Nat->Zm T)(r:Zm T):Zm T:=λ f ds U=>
 ∃(α:Type)(L:α->List (Nat×Value))(I:α->Qa T->Prop)(μ:α->Nat)(e:α),XF f (L e)/\I e U /\
   ∀y f U,I y U->b (λ z h U'=>h=ds/\∃w,XF z (L w)/\I w U'/\μ w<μ y) x r (ovr (L y) f) ds U
def YO(c:Operand)(a b:Zm T):Zm T:=λ f ds U=>(match Zj f c with
  |.bool t=>CB t (a f ds U) (b f ds U)
  |_=>False)
def Wt(S:Sys P T)(fn:FuncId)(ro:Option Nat)(N:Nat)(mu dets:List Nat)(c:Operand)(params:Array Tmp)(as b:C)(n:Zm T)(x:Nat->Zm T)(r:Zm T):Zm T:=λ f ds U=>
 ∀ca cb:Code,clean P mu N dets ca=as->clean P mu N dets cb=b->∀a:Act,FR N a f ds ->
   Zw S fn ro (.rangeFunc c params ca cb) (λ e a' U'=>a'.tmps=a.tmps/\(match e with|.normal=>n f a'.defers U'|.exit i=>x i f a'.defers U'|.ret=>r f a'.defers U')) a U
def TB(S:Sys P T)(fn:FuncId)(ro:Option Nat)(N:Nat)(c:Code)(n:Zm T)(x:Nat->Zm T)(r:Zm T):Zm T:=λ f ds U=>
 ∀a:Act,FR N a f ds ->
   Zw S fn ro c (λ e a' U'=>a'.tmps.size=a.tmps.size/\∃b,(∀t,a'.tmps.getD t undef=b t)/\(match e with|.normal=>n b a'.defers U'|.exit i=>x i b a'.defers U'|.ret=>r b a'.defers U')) a U
def JV(S:Sys P T)(fn:FuncId)(ro:Option Nat)(c:C):Zm T->(Nat->Zm T)->Zm T->Zm T:=
 C.rec (motive:=λ _=>Zm T->(Nat->Zm T)->Zm T->Zm T)
  (λ n _ _=>n)
  (λ _ _ a b n x r=>a (b n x r) x r)
  (λ c _ _ a b n x r=>YO c (a n x r) (b n x r))
  (λ id _ b n x r=>b n (λ i f ds U=>bif Nat.beq i id then n f ds U else x i f ds U) r)
  (λ _ b _ x r=>yU b x r)
  (λ i _ x _=>x i)
  (λ _ _ r=>r)
  (λ _ b n x r=>b n x r)
  (λ l n _ _=>JW S ro l n)
  (λ qs ts n _ _=>DX S (λ _=>False) qs (λ _=>True) (JW S ro ts n))
  (λ qs st ts n _ _ f ds U=>∃G,XM G/\DX S G qs (λ _=>True) (M6 S G st (JW S ro ts n)) f ds U)
  (λ N mu dets c params as e _ _ n x r=>Wt S fn ro N mu dets c params as e n x r)
  (λ N c n x r=>TB S fn ro N c n x r)
  (λ _ _ _ _ _ _=>False) c
end Go.TM
set_option linter.unusedSimpArgs false
namespace Go.TM
variable{T:Type}{P:Program}{S:Sys P T}
def Qa.sees.le{U U':Qa T}{a:Addr}{v:Value}(h:U.sees a v)(b:U.le U'):U'.sees a v:=by
 obtain⟨e,⟨c,t,fr,f,w⟩|⟨t,n,z⟩⟩:=h
 .exact⟨e,.inl ⟨c,t,fr,f.imp (b.imm _ _) (λ h=>b.own▸h),w⟩⟩
 .exact⟨e,.inr ⟨t,n,b.own▸z⟩⟩
def Jn.le{U U':Qa T}{a:Addr}{vs:List Value}(h:Jn U a vs)(b:U.le U'):Jn U' a vs:=λ i v e=>(h i v e).le b
theorem ZN.mono{K f:Value->Qa T->Prop}(e:∀v U,K v U->f v U){n:Next}{U:Qa T}(b:ZN S K n U):ZN S f n U:=by
 cases n <;> first|exact e _ _ b|exact Qb.mono b e|exact WI.mono b e|exact b
theorem OX.mono{o:O}{f:Fm}{K F:Value->Qa T->Prop}{U:Qa T}(e:∀v U,K v U->F v U)(h:OX S o f K U):OX S o f F U:=by
 cases o with
 |raw o=>exact λ a L=>Qr.mono _ (h a L) λ n U E=>ZN.mono (λ v U⟨w,H,I⟩=>⟨w,H,e _ _ I⟩) E
 |call c args=>
  simp only[OX]at h ⊢;split at h
  .simp only[J8]at h ⊢;exact⟨h.1,h.2.mono λ v U h M=>e v U (h M)⟩
  .simp only[J8]at h ⊢;exact Qr.mono _ h λ n U E=>ZN.mono e E
  .exact h
 |st n x v=>
  grind[OX,ZA.mono]
 |box t x=>grind[OX,SH]
 |boxM t x=>exact λ b B=>e _ _ (h b B)
 |alloc t z=>exact λ b B=>let ⟨w,a,b⟩:=h b B;⟨w,a,e _ _ b⟩
 |bsl t len z N=>
  simp only[OX,HS,Array.toArray_toList]at h ⊢;split at h
  .exact λ b B=>let ⟨w,a,b⟩:=h b B;⟨w,a,e _ _ b⟩
  .exact h
 |lenM x=>
  grind[OX]
 |mv x=>grind[OX,Qz]
 |mkf fn first G=>grind[OX,J8]
 |pick c a b=>
  grind[OX,Qz]
 |ext x i=>
  grind[OX,Qz]
 |part1 off x=>
  grind[OX,Qz]
 |ld x=>
  grind[OX,Qz]
 |ldn n x=>
  grind[OX]
 |sidx x i=>
  grind[OX]
 |idx n x i=>
  grind[OX]
 |aidx n m x i=>
  grind[OX]
 |sub3 sz x lo P=>
  simp only[OX]at h ⊢;split at h
  .split at h
   .obtain⟨l,hh,a,b⟩:=h;grind
   .exact h
  .exact h
 |build z N=>
  simp only[OX,HS,Array.toArray_toList]at h ⊢;split at h
  .exact e _ _ h
  .exact h
 |cmp op x y=>
  simp only[OX]at h ⊢;split at h
  .refine⟨h.1,?_⟩;cases op <;> simp_all
  .exact h
 |beq op x y=>
  simp only[OX]at h ⊢;split at h
  .grind
  .exact h
 |teq op x y=>
  simp only[OX]at h ⊢;split at h
  .grind
  .exact h
 |ar op x y=>
  simp only[OX]at h ⊢;split at h
  .cases op <;> grind
  .exact h
 |_=>
  grind[OX]
theorem OX.stable{o:O}{f:Fm}{K:Value->Qa T->Prop}{U:Qa T}(w:stable o=true)(h:OX S o f K U):∃v,K v U/\∀(U':Qa T)(B:Value->Qa T->Prop),(GO o=false\/U.le U')->B v U'->OX S o f B U':=by
 cases o with
 |raw o=>cases w
 |call c args=>cases w
 |st n x v=>cases w
 |box t x=>cases w
 |boxM t x=>cases w
 |alloc t z=>cases w
 |bsl t len z G=>cases w
 |lenM x=>cases w
 |mv x=>grind[OX,Qz]
 |mkf fn first F=>grind[OX,J8]
 |pick c a b=>
  grind[OX,Qz]
 |ext x i=>
  simp only[OX,Qz]at h;split at h <;> rename_i e
  .grind[OX,Qz]
  .exact h.elim
 |part1 off x=>
  simp only[OX,Qz]at h;split at h <;> rename_i e
  .grind[OX,Qz]
  .exact h.elim
 |ld x=>
  simp only[OX,Qz]at h;split at h <;> rename_i e
  .obtain⟨v,a,b⟩:=h;exact⟨v,b,λ U' B E k=>by simp only[OX,Qz,e];exact⟨v,a.le (E.resolve_left (by simp[GO])),k⟩⟩
  .exact h.elim
 |ldn n x=>
  simp only[OX]at h;split at h <;> rename_i e
  .obtain⟨v,a,b⟩:=h;exact⟨_,b,λ U' B E k=>by simp only[OX,Qz,e];exact⟨v,⟨a.1,a.2.le (E.resolve_left (by simp[GO]))⟩,k⟩⟩
  .exact h.elim
 |sidx x i=>
  grind[OX,Qz]
 |sub3 sz x lo H=>
  simp only[OX]at h;grind[OX,Qz]
 |build z G=>
  simp only[OX,HS,Array.toArray_toList]at h;split at h <;> rename_i e
  .exact⟨_,h,λ U' B E k=>by simp only[OX,Qz,HS,Array.toArray_toList,e];exact k⟩
  .exact h.elim
 |cmp op x y=>
  grind[OX,Qz]
 |beq op x y=>
  grind[OX,Qz]
 |teq op x y=>
  grind[OX,Qz]
 |ar op x y=>
  simp only[OX]at h;split at h
  .rename_i e e'
   cases op <;> grind[OX,Qz]
  .exact h.elim
 |add x y=>grind[OX,Qz]
 |sub x y=>grind[OX,Qz]
 |mul x y=>grind[OX,Qz]
 |idx n x y=>grind[OX,Qz]
 |aidx n m x y=>grind[OX,Qz]
 |_=>
  grind[OX,Qz]
section region
variable{N:Nat}{fn:FuncId}{ro:Option Nat}{mu:List Nat}{ops:Array Oper}
def Ak{todo:List Nat}{Q:Ex->Act->Qa T->Prop}{A:Value->Act}:∀v U U',Qw U U'->QX S fn ro ops todo Q (A v) U'->QX S fn ro ops todo Q (A v) U:=λ _ _ _ b h=>Ge b h
inductive KO(P:Program)(mu:List Nat)(ops:Array Oper)(o:Oper):St->Prop
 |plain:(∀c,o.op≠.defer c)->o.guard=none->KO P mu ops o ⟨Q8 P mu o,o.dst,none,none⟩
 |guarded {j:Nat} {w:Bool} {d:Nat}:(∀c,o.op≠.defer c)->o.guard=some (j,w)->(ops[j]?).bind (·.dst)=some d->KO P mu ops o ⟨Q8 P mu o,o.dst,some (d,w),none⟩
 |dfr {c:Operand} {args:Array Operand} {ats:Array TypeId}:o.op=.defer { callee:=.value c,args:=args,argTypes:=ats }->o.guard=none->KO P mu ops o ⟨.mv c,o.dst,none,some (c,args)⟩
def Vd{o:Oper}{st:St}(h:Jj P mu ops o=some st):KO P mu ops o st:=by
 unfold Jj at h;split at h
 .rename_i ho hg;cases h;exact .dfr ho hg
 .cases h
 .rename_i hg hnd0 hnd;cases h;exact .plain (λ c b=>hnd c b) hg
 .rename_i j w hg hnd;split at h
  .rename_i hd;cases h;exact .guarded (λ c b=>hnd c b) hg hd
  .cases h
theorem Wp{o:Oper}{a:Act}(b:o.guard=none):Region.wanted o (yielded ops a.tmps)=true:=by simp[Region.wanted,b]
def Tb{o:Oper}{a:Act}{j:Nat}{w:Bool}{d:Nat}{b:Bool}(f:o.guard=some (j,w))(e:(ops[j]?).bind (·.dst)=some d)(h:a.tmps[d]?=some (.bool b)) :
  Region.wanted o (yielded ops a.tmps)=(b==w):=by
 simp only[Region.wanted,f,yielded,e,Option.bind_some,h];cases b <;> cases w <;> rfl
def TU{o:Oper}{N:Nat}{a:Act}{f:Fm}{ds:List Deferred}(e:FR N a f ds){j:Nat}{w:Bool}{d:Nat}{vs:Array Value}(h:o.guard=some (j,w))(b:(ops[j]?).bind (·.dst)=some d)(z:f d=.tuple vs) :
  Region.wanted o (yielded ops a.tmps)=false:=by
 have:=e.get d;rw[z,Array.getD_eq_getD_getElem?]at this
 have E:yielded ops a.tmps j=none:=by
  simp only[yielded,b,Option.bind_some];cases B:a.tmps[d]? with
  |none=>rfl
  |some v=>
   rw[B]at this;simp only[Option.getD_some]at this;subst this;rfl
 simp only[Region.wanted,h,E];cases w <;> rfl
def P8{Q:Ex->Act->Qa T->Prop}{n:Zm T}(hQ:∀a f ds U,FR N a f ds->n f ds U->Q .normal a U)(hN:∀(i:Nat)(o:Oper),ops[i]?=some o->∀d,o.dst=some d->d<N) :
  ∀(z:List Nat)(l:List St),z.mapM (λ i=>(ops[i]?).bind (Jj P mu ops))=some l ->
   ∀(a:Act)(f:Fm)(ds:List Deferred)(U:Qa T),FR N a f ds->JW S ro l n f ds U->QX S fn ro ops z Q a U:=by
 intro z
 induction z with
 |nil=>
  intro l L a f ds U B h;simp at L;subst L;exact FP (hQ a f ds U B h)
 |cons i z W=>
  intro l L a f ds U B h;simp only[mapM_cons,Option.pure_def,Option.bind_eq_bind,Option.bind_eq_some_iff]at L;obtain⟨st,⟨o,G,Z⟩,l',E,e⟩:=L;cases e;have H:=hN i o G
  have step:∀{f:Fm},FR N a f ds->(∀c,o.op≠.defer c)->Region.wanted o (yielded ops a.tmps)=true->OX S (Q8 P mu o) f (λ v U'=>JW S ro l' n (ZD f o.dst v) ds U') U->QX S fn ro ops (i::z) Q a U:=by
   intro f B F V h;refine H0 G V (.inr F) (QN.opV (W2 (λ x=>B.eval x) Ak (OX.mono (λ v U' hv=>?_) h)));exact W l' E _ _ _ _ (B.put o.dst v H) hv
  cases Vd Z with
  |plain F K=>simp only[Si,P2]at h;grind[step,Wp]
  |@guarded j w d F K I=>
   simp only[Si,P2]at h;split at h
   .rename_i b hb;have V:=Tb (ops:=ops) (o:=o) K I (B.slot hb);have e:JH f d (.bool b)=f:=Kz hb;cases b <;> cases w <;> simp only[GB,Bool.not_true,Bool.not_false]at h <;> rw[e]at h
    .exact step B F (by rw[V];rfl) h
    .exact PE G (by rw[V];rfl) (W l' E _ _ _ _ (B.put o.dst undef H) h)
    .exact PE G (by rw[V];rfl) (W l' E _ _ _ _ (B.put o.dst undef H) h)
    grind
   .rename_i vs hb;exact PE G (TU B K I hb) (W l' E _ _ _ _ (B.put o.dst undef H) h)
   .exact h.elim
  |@dfr c args aa Y K=>
   simp only[Si,P2]at h;split at h
   .rename_i g first capt e
    obtain⟨M,h⟩:=h;have X:a.eval=Zj f:=funext B.eval;refine H0 G (Wp K) (.inl M) ?_;unfold Gc;simp only[execOp,Y,Qd,resolve,X,e,Deferred.ofValue,Qk,KS];refine⟨M,W l' E _ _ _ _ ?_ h⟩;have h1:FR N { a with defers:={ target:=.fn g capt,args:=first++args.map (Zj f) }::a.defers } f ({ target:=.fn g capt,args:=first++args.map (Zj f) }::ds):=⟨by rw[B.ds],B.size,B.get⟩;exact h1.put o.dst undef H
   .exact h.elim
def Jt{U':Qa T}{v:Value}:∀(w:Value)(f h:Qa T),Qw f h->(w=v/\∃b,Qw h b/\U'.le b)->(w=v/\∃b,Qw f b/\U'.le b):=
 λ _ _ _ E⟨e,b,z,B⟩=>⟨e,b,E.trans z,B⟩
def Fu{QA:Act->Qa T->Prop}{K:Zm T}{U:Qa T}{rl:List Nat}{B:Nat->Nat->Prop}{late:Nat->Bool}{G:Qa T->Prop}{tail:List Nat}{kind:Nat->Nat}(ag:∀a f ds H,FR N a f ds->(∀U',U.le U'->H U'->K f ds U')->ZY S ops rl B late G U QA tail H a)(hN:∀(i:Nat)(o:Oper),ops[i]?=some o->∀d,o.dst=some d->d<N)
  (aa:∀i,kind i=0\/kind i=1\/kind i=3->i∉rl) (ai:∀i,kind i≠0->kind i≠1->kind i≠3->i∈rl) (ae:∀i,kind i=0->∀o,ops[i]?=some o->stable (Q8 P mu o)=true/\(late i=true->GO (Q8 P mu o)=false)) (al:∀i,kind i=1->late i=false) :
  ∀(z:List Nat)(l:List (Nat×St)),z.mapM (λ i=>((ops[i]?).bind (Jj P mu ops)).map λ st=>(kind i,st))=some l->(l.all λ x=>x.2.dfr.isNone)=true->(∀i∈z,∀o,ops[i]?=some o->o.guard=none\/i∉rl) ->
   ∀(a:Act)(f:Fm)(ds:List Deferred)(H:Qa T->Prop),FR N a f ds->DX S G l H K f ds U->ZY S ops rl B late G U QA (z++tail) H a:=by
 intro z
 induction z with
 |nil=>
  intro l hl _ _ a f ds H E h;simp at hl;subst hl;exact ag a f ds H E h
 |cons i z ih=>
  intro l hl Q ad a f ds H E h;simp only[mapM_cons,Option.pure_def,Option.bind_eq_bind,Option.bind_eq_some_iff,Option.map_eq_some_iff]at hl;obtain⟨x,⟨st,⟨o,V,X⟩,rfl⟩,l',aj,e⟩:=hl;cases e;simp only[all_cons,Bool.and_eq_true]at Q;have hd:=hN i o V;have L:=ih l' aj Q.2 (λ j hj=>ad j (mem_cons_of_mem _ hj))
  have run:∀{f:Fm},FR N a f ds->Region.wanted o (yielded ops a.tmps)=true ->
    (match kind i with
     |0=>OX S (Q8 P mu o) f (λ v _=>DX S G l' H K (ZD f o.dst v) ds U) U
     |1=>∃v,(∀U',U.le U'->H U'->OX S (Q8 P mu o) f (λ v' Y=>v'=v/\∃M,Qw Y M/\U'.le M) U')/\DX S G l' H K (ZD f o.dst v) ds U
     |3=>∃v,(∀U',U.le U'->H U'->OX S (Q8 P mu o) f (λ v' Y=>v'=v/\∃M,Qw Y M/\U'.le M) U')/\(∀U',G U'->OX S (Q8 P mu o) f (λ v' Y=>v'=v/\∃M,Qw Y M/\U'.le M) U')/\DX S G l' H K (ZD f o.dst v) ds U
     |_=>∃F:Value->Qa T->Prop,(∀v,XM (F v))/\(∀U',U.le U'->H U'->OX S (Q8 P mu o) f (λ v' Y=>∃M,Qw Y M/\F v' M/\U'.le M) U') /\
       ∀v,(∃U',U.le U'/\H U'/\F v U')->DX S G l' (λ U'=>H U'/\F v U') K (ZD f o.dst v) ds U)->ZY S ops rl B late G U QA (i::(z++tail)) H a:=by
   intro f E Z h;split at h
   .rename_i hk;obtain⟨v,hn,X⟩:=OX.stable (ae i hk o V).1 h;refine .det v (aa i (.inl hk)) V Z (λ U' I _=>?_) (λ af U' _=>?_) (L _ _ _ _ (E.put o.dst v hd) hn)
    .exact W2 (λ x=>E.eval x) Jt (X U' _ (.inr I) ⟨rfl,U',.refl _,.refl _⟩)
    .exact W2 (λ x=>E.eval x) Jt (X U' _ (.inl ((ae i hk o V).2 af)) ⟨rfl,U',.refl _,.refl _⟩)
   .rename_i hk;obtain⟨v,W,hn⟩:=h;refine .det v (aa i (.inr (.inl hk))) V Z (λ U' I hc=>?_) (λ af=>S2) (L _ _ _ _ (E.put o.dst v hd) hn);exact W2 (λ x=>E.eval x) Jt (W U' I hc)
   .rename_i hk;obtain⟨v,W,ah,hn⟩:=h;refine .det v (aa i (.inr (.inr hk))) V Z (λ U' I hc=>?_) (λ _ U' hg=>?_) (L _ _ _ _ (E.put o.dst v hd) hn)
    .exact W2 (λ x=>E.eval x) Jt (W U' I hc)
    .exact W2 (λ x=>E.eval x) Jt (ah U' hg)
   .rename_i h0 h1 h3;obtain⟨F,hF,W,hn⟩:=h;refine .rel F (ai i (λ e=>h0 e) (λ e=>h1 e) (λ e=>h3 e)) hF V Z (λ U' I hc=>?_) (λ v hv=>L _ _ _ _ (E.put o.dst v hd) (hn v hv));exact W2 (λ x=>E.eval x) (λ v' Y U3 hs⟨M,a,b,c⟩=>⟨M,hs.trans a,b,c⟩) (W U' I hc)
  cases Vd X with
  |plain ak hg=>simp only[UX,VH]at h;grind[Wp]
  |@guarded j w d ak hg ac=>
   simp only[UX,VH]at h;have ab:i∉rl:=(ad i (mem_cons_self ..) o V).resolve_left (by rw[hg];simp);split at h
   .rename_i b hb;have Z:=Tb (ops:=ops) (o:=o) hg ac (E.slot hb);have e:JH f d (.bool b)=f:=Kz hb;cases b <;> cases w <;> simp only[GB,Bool.not_true,Bool.not_false]at h <;> rw[e]at h
    .exact run E (by rw[Z];rfl) h
    .exact .un ab V (by rw[Z];rfl) (L _ _ _ _ (E.put o.dst undef hd) h)
    .exact .un ab V (by rw[Z];rfl) (L _ _ _ _ (E.put o.dst undef hd) h)
    grind
   .rename_i vs hb;exact .un ab V (TU E hg ac hb) (L _ _ _ _ (E.put o.dst undef hd) h)
   .exact h.elim
  |dfr=>simp at Q
end region
def Gj(N:Nat)(n:Zm T)(x:Nat->Zm T)(r:Zm T)(e:Ex)(a:Act)(U:Qa T):Prop:=
 ∃f ds,FR N a f ds/\(match e with|.normal=>n f ds U|.exit i=>x i f ds U|.ret=>r f ds U)
def ZY.fin{ops:Array Oper}{rl:List Nat}{B:Nat->Nat->Prop}{late:Nat->Bool}{G:Qa T->Prop}{U:Qa T}{QA w:Act->Qa T->Prop}(H:∀a U,QA a U->w a U){l:List Nat}{E:Qa T->Prop}{a:Act}(h:ZY S ops rl B late G U QA l E a):ZY S ops rl B late G U w l E a:=by
 induction h with
 |nil h=>exact .nil λ U' a b=>H _ _ (h U' a b)
 |un a b c _ z=>exact .un a b c z
 |det v a b c d e _ z=>exact .det v a b c d e z
 |rel F a b c d e _ z=>exact .rel F a b c d e z
 |last a b c d e f g=>exact .last a b c d e f λ I U' h=>H _ _ (g I U' h)
section code
variable{N:Nat}{fn:FuncId}{ro:Option Nat}{mu dets:List Nat}
def vI{G:Type}{c:Code}{Q:Ex->Act->Qa T->Prop}(I:G->Act->Qa T->Prop)(μ:G->Nat){g:G}{a:Act}{U:Qa T}(z:I g a U)
  (round:∀g a U,I g a U->Zw S fn ro c (λ e a' U'=>match e with|.normal=>∃g',I g' a' U'/\μ g'<μ g|e=>Q e a' U') a U):Zw S fn ro (.loop c) Q a U:=by
 intro Stop m b k cs B f;refine .still rfl (λ _=>vT) ?_
 have key:∀N g a U,μ g<=N->I g a U->J S Stop m (R b a (.code c::.inLoop c::k) cs) U:=by
  intro N
  induction N with
  |zero=>
   intro g a U F h;refine round g a U h Stop m b (.inLoop c::k) cs B λ e a' U' q=>?_;cases e with
   |normal=>simp_all
   |exit id=>exact(f _ _ _ q).push (λ _ _=>rfl) S1
   |ret=>exact(f _ _ _ q).push (x:=.inLoop c) (λ _ _=>rfl) S1
  |succ N H=>
   intro g a U F h;refine round g a U h Stop m b (.inLoop c::k) cs B λ e a' U' q=>?_;cases e with
   |normal=>obtain⟨g',w,E⟩:=q;exact .still rfl (λ _=>oz) (H g' a' U' O1 w)
   |exit id=>exact(f _ _ _ q).push (λ _ _=>rfl) S1
   |ret=>exact(f _ _ _ q).push (x:=.inLoop c) (λ _ _=>rfl) S1
 exact key _ g a U (Nat.le_refl _) z
def vu{ops:Array Oper}(h:ops.all (Gn N)=true):∀(i:Nat)(o:Oper),ops[i]?=some o->∀d,o.dst=some d->d<N:=by
 grind[Array.mem_of_getElem?,Gn]
def AR(hm:P.follows .mixedOrders=true){id:Nat}{ops:Array Oper}{d:Bool}{n:Zm T}{x:Nat->Zm T}{r:Zm T}{f:Fm}{ds:List Deferred}{U:Qa T}{a:Act}(z:FR N a f ds)
  (h:JV S fn ro (YL P mu N dets ops d) n x r f ds U):Zw S fn ro (.region id ops d) (Gj N n x r) a U:=by
 unfold YL at h;split at h
 .exact h.elim
 .rename_i hall;have V:=vu (N:=N) (ops:=ops) (by simpa using hall);have Z:∀a f ds U,FR N a f ds->n f ds U->Gj N n x r .normal a U:=λ a f ds U z h=>⟨f,ds,z,h⟩;split at h
  .split at h
   .rename_i l hl;exact M7 (P8 Z V _ l hl a f ds U z h)
   .exact h.elim
  .dsimp only at h
   split at h
   .exact h.elim
   .rename_i L;simp only[Bool.or_eq_true,Bool.not_eq_true',not_or,Bool.not_eq_false]at L;obtain⟨L,X⟩:=L;split at h
    .rename_i x st M;split at h
     .rename_i la lb hla hlb;split at h
      .rename_i hdf;obtain⟨G,hG,h⟩:=h;simp only[Option.bind_eq_some_iff]at M;obtain⟨x',F,st',⟨o,I,ac⟩,M⟩:=M;split at M
       .rename_i w;cases M;simp only[Bool.and_eq_true,contains_iff_mem,Option.isNone_iff_eq_none]at w;obtain⟨⟨⟨ad,af⟩,ab⟩,aa⟩:=w;refine UL (late:=Vl ops x) (G:=G) _ _ _ hm L ?_;refine ZY.fin (QA:=λ a U=>∃f ds,FR N a f ds/\JW S ro lb n f ds U) (λ a U⟨f,ds,z,h⟩=>P8 Z V _ lb hlb a f ds U z h) ?_
        obtain⟨W,rfl⟩:o.guard=none/\st=⟨Q8 P mu o,o.dst,none,none⟩:=by
         cases Vd ac with
         |plain _ W=>exact⟨W,rfl⟩
         |guarded=>cases ab
         |dfr=>cases aa
        have hq:Pw ops (Xg P mu dets ops) ops.size (range (W8 ops ops.size)) []=(Pw ops (Xg P mu dets ops) ops.size (range (W8 ops ops.size)) []).dropLast++[x]:=by
         rw[getLast?_eq_some_iff]at F;obtain⟨ys,ae⟩:=F;rw[ae];simp
        rw[hq];refine Fu (S:=S) (mu:=mu) (tail:=[x]) (K:=M6 S G ⟨Q8 P mu o,o.dst,none,none⟩ (JW S ro lb n)) (λ a f ds Cn z h=>.last ad hG (λ j hj=>?_) I (Wp W) (λ U' H w=>?_) (λ M Y W=>?_)) V ?_ ?_ ?_ ?_ _ la hla hdf ?_ a f ds _ z h
        .grind[Wr,Vl]
        .exact W2 (λ x=>z.eval x) (λ v' U2 U3 hs⟨e,U1,a,b⟩=>⟨e,U1,hs.trans a,b⟩) (h U' H w).1
        .obtain⟨U',H,w⟩:=M;exact⟨_,_,z.put o.dst undef (V x o I),(h U' H w).2 Y W⟩
        .intro i hi w;have E:=contains_iff_mem.2 w;simp only[Pn,E,if_true]at hi;grind
        .intro i h0 h1 h3;apply Classical.byContradiction;intro w
         have E:(List.filter (Xg P mu dets ops) (range (W8 ops ops.size))).contains i=false:=by
          cases Q:(List.filter (Xg P mu dets ops) (range (W8 ops ops.size))).contains i with
          |false=>rfl
          |true=>exact absurd (contains_iff_mem.1 Q) w
         simp only[Pn,E,Bool.false_eq_true,if_false]at h0 h1 h3;cases I:ops[i]? with
         |none=>simp[I]at h3
         |some o=>
          simp only[I]at h0 h1 h3;split at h0
          .exact h0 rfl
          .rename_i hh;simp only[hh,Bool.false_eq_true,if_false]at h1 h3;split at h1
           .grind
           .exact h1 rfl
        .intro i h0 o I;simp only[Pn]at h0;split at h0
         .cases h0
         .simp only[I]at h0;split at h0
          .grind
          .split at h0 <;> cases h0
        .intro i h1;simp only[Pn]at h1;split at h1
         .cases h1
         .split at h1
          .split at h1
           .cases h1
           grind
          .cases h1
        .intro i _ o I;by_cases w:i∈List.filter (Xg P mu dets ops) (range (W8 ops ops.size))
         .refine .inl ?_;have:=all_eq_true.1 X i w;simpa[I]using this
         .exact .inr w
       .cases M
      .exact h.elim
     .exact h.elim
    .split at h
     .rename_i la lb hla hlb;split at h
      .rename_i hdf;refine UL (late:=λ _=>false) (G:=λ _=>False) _ _ _ hm L ?_;refine ZY.fin (QA:=λ a U=>∃f ds,FR N a f ds/\JW S ro lb n f ds U) (λ a U⟨f,ds,z,h⟩=>P8 Z V _ lb hlb a f ds U z h) ?_;have key:=Fu (S:=S) (mu:=mu) (rl:=List.filter (Xg P mu dets ops) (range (W8 ops ops.size))) (B:=JF ops) (late:=λ _=>false) (G:=λ _=>False) (tail:=[]) (QA:=λ a U=>∃f ds,FR N a f ds/\JW S ro lb n f ds U) (K:=JW S ro lb n) (U:=U) (λ a f ds Cn z h=>.nil λ U' H w=>⟨f,ds,z,h U' H w⟩) V ?_ ?_ ?_ (λ _ _=>rfl) _ la hla hdf ?_ a f ds (λ _=>True) z h
       .simpa using key
       .intro i hi w;simp_all[KZ,if_true]
       .intro i h0 h1 h3;apply Classical.byContradiction;intro w
        have E:(List.filter (Xg P mu dets ops) (range (W8 ops ops.size))).contains i=false:=by
         cases Q:(List.filter (Xg P mu dets ops) (range (W8 ops ops.size))).contains i with
         |false=>rfl
         |true=>exact absurd (contains_iff_mem.1 Q) w
        simp only[KZ,E,Bool.false_eq_true,if_false]at h0 h1;grind
       .intro i h0 o I;simp only[KZ]at h0;grind
       .intro i _ o I;by_cases w:i∈List.filter (Xg P mu dets ops) (range (W8 ops ops.size))
        .refine .inl ?_;have:=all_eq_true.1 X i w;simp_all
        .exact .inr w
      .exact h.elim
     .exact h.elim
theorem G4(hm:P.follows .mixedOrders=true):∀(code:Code){n:Zm T}{x:Nat->Zm T}{r:Zm T}{f:Fm}{ds:List Deferred}{U:Qa T}{a:Act},FR N a f ds->JV S fn ro (clean P mu N dets code) n x r f ds U ->
  Zw S fn ro code (Gj N n x r) a U:=by
 intro code
 induction code with
 |skip=>exact λ b h=>AG ⟨_,_,b,h⟩
 |label l=>exact λ b h=>CZ ⟨_,_,b,h⟩
 |region id ops d=>
  intro n x r f ds U a b h;simp only[clean]at h
  have cd:JV S fn ro (.cd N (.region id ops d)) n x r f ds U->Zw S fn ro (.region id ops d) (Gj N n x r) a U:=λ h=>by
   refine Zw.mono (h a b) λ e a' U'⟨M,F,z,B⟩=>⟨F,a'.defers,⟨rfl,by rw[M];exact b.size,z⟩,?_⟩;cases e <;> exact B
  split at h
  .exact cd h
  .split at h
   .exact cd h
   .exact AR hm b h
 |seq Q V H K=>
  intro n x r f ds U a b h;refine gH (Zw.mono (H b h) λ e a' U' B=>?_);obtain⟨F,E,z,B⟩:=B;cases e with
  |normal=>exact K z B
  |exit i=>exact⟨F,E,z,B⟩
  |ret=>exact⟨F,E,z,B⟩
 |cond c Q V H K=>
  intro n x r f ds U a b h
  replace h:YO c (JV S fn ro (clean P mu N dets Q) n x r) (JV S fn ro (clean P mu N dets V) n x r) f ds U:=h
  unfold YO at h;split at h
  .rename_i t M;refine Mx t (by rw[b.eval];exact M) ?_;cases t
   .exact K b h
   .exact H b h
  .exact h.elim
 |block id c W=>
  intro n x r f ds U a b h;refine Ah (Zw.mono (W b h) λ e a' U' B=>?_);obtain⟨F,E,z,B⟩:=B;cases e with
  |normal=>exact⟨F,E,z,B⟩
  |exit i=>
   simp only at B ⊢;by_cases e:i=id
   .subst e;have:Nat.beq i i=true:=S1
    rw[this]at B;rw[if_pos rfl];exact⟨F,E,z,B⟩
   .have:Nat.beq i id=false:=by cases hb:Nat.beq i id with|false=>rfl|true=>exact absurd (Nat.eq_of_beq_eq_true hb) e
    rw[this]at B;rw[if_neg e];exact⟨F,E,z,B⟩
  |ret=>exact⟨F,E,z,B⟩
 |loop c W=>
  intro n x r f ds U a b h;obtain⟨α,L,I,μ,ab,he,X,hr⟩:=h;refine vI (G:=α) (λ y a U=>∃f,FR N a (ovr (L y) f) ds/\I y U) μ (g:=ab) ⟨f,by rw[he.ovr];exact b,X⟩ λ y a U⟨f,b,X⟩=>?_;refine Zw.mono (W b (hr y f U X)) λ e a' U' B=>?_;obtain⟨F,E,z,B⟩:=B;cases e with
  |normal=>
   obtain⟨rfl,y',Z,Y,aa⟩:=B;exact⟨y',⟨F,by rw[Z.ovr];exact z,Y⟩,aa⟩
  |exit i=>exact⟨F,E,z,B⟩
  |ret=>exact⟨F,E,z,B⟩
 |rangeFunc c params assign body _ _=>
  intro n x r f ds U a b h;refine Zw.mono (h _ _ rfl rfl a b) λ e a' U'⟨M,B⟩=>⟨f,a'.defers,⟨rfl,by rw[M];exact b.size,λ t=>by rw[M];exact b.get t⟩,?_⟩;cases e <;> exact B
 |exit id=>exact λ b h=>Ld ⟨_,_,b,h⟩
 |scope c W=>exact λ b h=>NO (W b h)
 |goto l=>exact λ _ h=>h.elim
 |ret=>exact λ b h=>EI ⟨_,_,b,h⟩
 |refuse w=>exact λ _ h=>h.elim
end code
def fm(args:List Value):Fm:=λ t=>args.getD t undef
theorem Qo(b o n:Nat):(Addr.mk b o none).add n=⟨b,o+n,none⟩:=by
 grind[Addr.add]
theorem gJ(a:Addr)(h:a.spot=none)(m n:Nat):(a.add m).add n=a.add (m+n):=by
 obtain⟨b,o,s⟩:=a;grind[Qo,Nat.add_assoc]
def Zi.sees{U:Qa T}{b o:Nat}{c:Array Value}{v:Value}(h:Zi U b c)(e:c[o]?=some v):U.sees ⟨b,o,none⟩ v:=by
 obtain⟨t,fr,h⟩:=h;exact⟨rfl,.inl ⟨c,t,fr,.inl h,e⟩⟩
def Zi.le{U U':Qa T}{b:Nat}{c:Array Value}(h:Zi U b c)(e:U.le U'):Zi U' b c:=let ⟨t,fr,h⟩:=h;⟨t,fr,e.imm _ _ h⟩
def Zi.reads{U:Qa T}{b o:Nat}{c:Array Value}{vs:List Value}(h:Zi U b c)(f:∀i v,vs[i]?=some v->c[o+i]?=some v):Jn U ⟨b,o,none⟩ vs:=by
 intro i v e;rw[Qo];exact h.sees (f i v e)
def Zi.rd{U:Qa T}{b:Nat}{vs:List Value}(h:Zi U b vs.toArray):Jn U ⟨b,0,none⟩ vs:=h.reads λ k v e=>by simpa using e
def Ie{U U':Qa T}(h:U.le U'):Qw U' U:=by
 refine⟨h.tok.symm,λ w ok=>⟨⟨λ b o e=>ok.imm b o (h.imm b o e),λ r B=>ok.held r (h.own▸B),h.own▸ok.apart,λ r B=>?_⟩,λ l f=>?_,λ l f=>?_⟩⟩
 .have:=ok.sep r (h.own▸B);cases e:U.I r.blk with
  |none=>rfl
  |some o=>rw[h.imm _ _ e]at this;cases this
 .rw[Q6]at f ⊢;rw[h.own];exact f
 .rw[Qy]at f ⊢;rw[h.own];refine f.imp id λ f=>?_;cases l with
  |cell a=>obtain⟨c,t,fr,E,z⟩:=f;exact⟨c,t,fr,h.imm _ _ E,z⟩
  |obj b=>obtain⟨o,F⟩:=f;exact⟨o,h.imm _ _ F⟩
  |output=>exact f
  |goroutines=>exact f
  |mark _=>exact f
def Qb.pure{f:FuncId}{args:Array Value}{U:Qa T}{Q:Value->Prop}(h:Qb S f args (λ v U'=>Q v/\U.le U') U):Qb S f args (λ v U'=>Q v/\U'=U) U:=
 h.post λ _ _⟨q,b⟩=>⟨U,Ie b,q,rfl⟩
end Go.TM
namespace Go.TM
def XP(id:Nat):Code->Option Code
 |.region i ops d=>if i=id then some (.region i ops d)else none
 |.seq a b=>(XP id a).or (XP id b)
 |.cond _ a b=>(XP id a).or (XP id b)
 |.block _ b=>XP id b
 |.loop b=>XP id b
 |.scope b=>XP id b
 |.rangeFunc _ _ a b=>(XP id a).or (XP id b)
 |_=>none
def Gl(fd:Func)(id:Nat):Code:=(fd.body.bind (XP id)).getD .skip
def Pl(fd:Func)(id:Nat):Array Oper:=match Gl fd id with
 |.region _ ops _=>ops
 |_=>#[]
variable{T:Type}{P:Program}{S:Sys P T}
inductive RV where
 |t (n:Nat)
 |c (a:Nat)
 |cn (a n:Nat)
def Xt(P:Program):ResultVar->Option RV
 |.tmp t=>some (.t t)
 |.cell a t=>match P.underlying t with
  |some d=>if TypeDesc.agg d then(Jv P t).map (.cn a)else some (.c a)
  |none=>none
def Vn(acc:List Value):Value:=match acc with|[v]=>v|l=>.tuple l.reverse.toArray
def VT(acc:List Value)(K:Value->Prop):Prop:=match acc with|[v]=>K v|l=>K (.tuple l.reverse.toArray)
def pw(acc:List Value)(K:Value->Prop):VT acc K=K (Vn acc):=by
 unfold VT Vn;grind
def Pc(f:Fm)(Q:Value->Qa T->Prop)(x:RV)(e:List Value->Qa T->Prop)(acc:List Value)(U:Qa T):Prop:=
 match x with
 |.t t=>WM (f t) λ v=>e (v::acc) U
 |.c a=>match f a with|.pointer (some b)=>∃v,U.sees b v/\WM v λ v=>e (v::acc) U|_=>False
 |.cn a n=>match f a with|.pointer (some b)=>∃vs:List Value,(vs.length=n/\Jn U b vs)/\e (.agg vs.toArray::acc) U|_=>False
def HZ(f:Fm)(Q:Value->Qa T->Prop)(l:List RV):List Value->Qa T->Prop:=
 List.rec (motive:=λ _=>List Value->Qa T->Prop) (λ acc U=>VT acc λ v=>Q v U) (λ x _ b=>Pc f Q x b) l
def TC(f:Fm)(Q:Value->Qa T->Prop)(x:RV)(r:List RV):HZ f Q (x::r)=Pc f Q x (HZ f Q r):=rfl
def Dk(acc:List Value):Value:=if h:acc.reverse.toArray.size=1 then acc.reverse.toArray[0]else .tuple acc.reverse.toArray
def jN(acc:List Value):Vn acc=Dk acc:=by
 unfold Dk Vn
 match acc with
 |[]=>rfl
 |[v]=>rfl
 |a::b::r=>rw[dif_neg S1]
def Nn{fd:Func}{Q:Value->Qa T->Prop}{f:Fm}{tmps:Array Value}(F:∀t,tmps.getD t undef=f t) :
  ∀(l:List ResultVar)(rl:List RV),l.mapM (Xt P)=some rl->∀(acc:List Value)(U:Qa T),HZ f Q rl acc U->Qr P (X5 (λ x=>match x with
   |ResultVar.tmp t=>pure (tmps.getD t undef)
   |ResultVar.cell a t=>do loadVar t (<- asAddr (tmps.getD a undef))) l acc.reverse.toArray) (λ vs U=>Qr P (pure (if h:vs.size=1 then vs[0]else .tuple vs):Sem Value) Q U) U:=by
 intro l
 induction l with
 |nil=>
  intro rl h acc U b;simp at h;subst h
  replace b:VT acc (λ v=>Q v U):=b
  rw[pw]at b;rw[jN]at b;exact b
 |cons x l E=>
  intro rl h acc U b;simp only[mapM_cons,Option.pure_def,Option.bind_eq_bind,Option.bind_eq_some_iff]at h;obtain⟨S,w,N,z,e⟩:=h;cases e;have push:∀v:Value,acc.reverse.toArray.push v=(v::acc).reverse.toArray:=λ v=>by apply Array.ext';simp
  cases x with
  |tmp t=>
   simp only[Xt,Option.some.injEq]at w;subst w;simp only[TC,Pc,Qz]at b;simp only[X5];rw[Qd,F,Qk,push];exact E _ z _ _ b
  |cell a t=>
   simp only[X5];rw[Qd,Qd,F];simp only[Xt]at w;split at w
   .rename_i d hd;split at w
    .rename_i hag;simp only[Option.map_eq_some_iff]at w;obtain⟨n,I,rfl⟩:=w;obtain⟨M,G,B⟩:=Gw I;simp only[TC,Pc]at b;split at b
     .rename_i ad e;obtain⟨vs,⟨H,K⟩,b⟩:=b;rw[e];simp only[asAddr,Qk,loadVar,Qd,Hi hd,hag,if_true,Jh G,B,<- H];refine K.cells ?_;simp only[Qk,push];exact E _ z _ _ b
     .exact b.elim
    .rename_i hag;cases w;simp only[TC,Pc]at b;split at b
     .rename_i ad e;obtain⟨v,L,b⟩:=b;rw[Qz]at b;rw[e];simp only[asAddr,Qk,loadVar,Qd,Hi hd,hag,Bool.false_eq_true,if_false];refine OF L ?_;rw[push];exact E _ z _ _ b
     .exact b.elim
   .cases w
def YP(rl:List RV)(Q:Value->Qa T->Prop)(f:Fm)(l:List Deferred):Qa T->Prop:=
 List.rec (motive:=λ _=>Qa T->Prop) (λ U=>HZ f Q rl [] U) (λ d _ e U=>match d.target with
  |.collected b=>∃M',J4 b (.deferred none) (.deferred (some [])) U.M M'/\e { U with M:=M' }
  |_=>False) l
def J4.mem{b:Nat}{e o:Obj}{M M':List Qx}(h:J4 b e o M M'):Qx.obj b o∈M:=by
 induction h with
 |here=>simp_all
 |there _ f=>simp_all
def Yr{fd:Func}{rl:List RV}(z:fd.results.toList.mapM (Xt P)=some rl){Q:Value->Qa T->Prop}{f:Fm}:∀(ds:List Deferred)(U:Qa T),YP rl Q f ds U ->
  ∀tmps:Array Value,(∀t,tmps.getD t undef=f t)->X9 P fd Q tmps ds U
 |[],U,h,tmps,w=>by
  have e:fd.results=fd.results.toList.toArray:=rfl;simp only[X9,results];rw[e,Qd,Ta];exact Nn (fd:=fd) w _ _ z [] U h
 |⟨tg,args⟩::ds,U,h,tmps,w=>by
  cases tg with
  |collected b=>
   obtain⟨M',B,h⟩:=h;simp only[X9,Instr.takeDeferred,Qd,getObj];refine⟨_,.inr B.mem,rfl,rfl,?_⟩;simp only[Qr,Qd,setObj];exact⟨_,M',B,rfl,rfl,rfl,rfl,Yr z ds _ h tmps w⟩
  |_=>exact h.elim
structure Zf(P:Program)(g:FuncId)(N:Nat)(cc:C)(rl:List RV):Prop where
 ok:∃fd mu dets,P.funcs[g]?=some fd/\fd.body=some (fd.body.getD .skip)/\clean P mu fd.ntmps dets (fd.body.getD .skip)=cc/\fd.ntmps=N/\fd.results.toList.mapM (Xt P)=some rl/\(fd.name != "runtime.NumGoroutine")=true
def Zf.mk'{g:FuncId}{N:Nat}{cc:C}{rl:List RV}{fd:Func}(mu dets:List Nat)(f:P.funcs[g]?=some fd)(B:fd.body.isSome=true)(e:clean P mu fd.ntmps dets (fd.body.getD .skip)=cc)(b:fd.ntmps=N)
  (z:fd.results.toList.mapM (Xt P)=some rl) (w:(fd.name != "runtime.NumGoroutine")=true):Zf P g N cc rl:=
 ⟨fd,mu,dets,f,by cases h:fd.body with|none=>simp_all|some c=>rfl,e,b,z,w⟩
def Zf.o{g:FuncId}{N:Nat}{cc:C}{rl:List RV}{fd:Func}(mu dets:List Nat)(B:P.funcs[g]?=some fd)(h:(fd.body.isSome,clean P mu fd.ntmps dets (fd.body.getD .skip),fd.ntmps,fd.results.toList.mapM (Xt P),(fd.name != "runtime.NumGoroutine"))=(true,cc,N,some rl,true)):Zf P g N cc rl:=by
 obtain⟨b,e,f,w,z⟩:=(by simpa only[Prod.mk.injEq]using h:_/\_/\_/\_/\_);exact .mk' mu dets B b e f w z
def Zf.any{g:FuncId}{N:Nat}{cc:C}{rl:List RV}(k:Zf P g N cc rl):(P.funcs[g]?.any λ fd=>fd.body.isSome&&fd.name != "runtime.NumGoroutine")=true:=by
 obtain⟨fd,mu,dets,e,b,-,-,-,f⟩:=k.ok;grind
theorem Qb.of{g:FuncId}{N:Nat}{cc:C}{rl:List RV}(k:Zf P g N cc rl)(I:P.follows .mixedOrders=true){args:List Value}(L:args.length<=N){U:Qa T}{Q:Value->Qa T->Prop}
  (h:JV S g none cc (λ f ds U=>YP rl Q f ds U) (λ _ _ _ _=>False) (λ f ds U=>YP rl Q f ds U) (fm args) [] U):Qb S g args.toArray Q U:=by
 obtain⟨fd,mu,dets,H,F,G,rfl,B,-⟩:=k.ok;refine Qb.of_body H F ?_
 have z:FR fd.ntmps { tmps:=args.toArray++Array.replicate (fd.ntmps-args.toArray.size) undef,defers:=[] } (fm args) []:=by
  refine⟨rfl,S3,λ t=>?_⟩;simp only[fm,Array.getD_eq_getD_getElem?,getD_eq_getElem?_getD,Array.getElem?_append,size_toArray,getElem?_toArray];split
  .rfl
  .grind
 subst G;refine Zw.mono (G4 I _ z h) λ e a U w=>?_;obtain⟨K,E,b,w⟩:=w;cases e with
 |normal=>have:=Yr B _ _ w a.tmps b.get;simpa only[OY,b.ds]using this
 |exit i=>exact w.elim
 |ret=>have:=Yr B _ _ w a.tmps b.get;simpa only[OY,b.ds]using this
abbrev St.xz(d a b t:Nat):St:=.d d (.raw { dst:=none,op:=(.call { callee:=.builtin .append,args:=#[.tmp a,.tmp b],argTypes:=#[t,t] }),type:=t,pos:= "",after:=#[],guard:=none })
abbrev St.xo(d k t:Nat):St:=.d d (.off k (.tmp t))
abbrev St.xl(d t:Nat):St:=.d d (.ld (.tmp t))
abbrev St.xi(d n a b:Nat):St:=.d d (.idx n (.tmp a) (.tmp b))
abbrev St.xn(d t:Nat):St:=.d d (.len (.tmp t))
abbrev St.xc(d:Nat)(o:BinOp)(a b:Nat):St:=.d d (.cmp o (.tmp a) (.tmp b))
abbrev St.xk(d:Nat)(o:BinOp)(a:Nat)(n:Int):St:=.d d (.cmp o (.tmp a) (.const (.int .i64 n)))
abbrev St.xa(d t:Nat):St:=.d d (.add (.tmp t) (.const (.int .i64 1)))
abbrev St.xe(d t i:Nat):St:=.d d (.ext (.tmp t) i)
abbrev St.xd(d n t:Nat):St:=.d d (.ldn n (.tmp t))
abbrev St.xt(d t:Nat):St:=.d d (.not (.tmp t))
abbrev St.xv(d:Nat)(n:Int):St:=.d d (.mv (.const (.int .i64 n)))
abbrev St.xb(d:Nat)(b:Bool):St:=.d d (.mv (.const (.bool b)))
abbrev St.xs(d:Nat):St:=.d d (.mv (.const (.slice none 0 0)))
abbrev St.xp(d a b:Nat):St:=.d d (.pick (.tmp a) (.tmp b) (.const (.bool false)))
abbrev St.xq(d a b:Nat):St:=.d d (.pick (.tmp a) (.const (.bool true)) (.tmp b))
abbrev St.yo(d g:Nat)(p:Bool)(k t:Nat):St:=.u d g p (.off k (.tmp t))
abbrev St.yl(d g:Nat)(p:Bool)(t:Nat):St:=.u d g p (.ld (.tmp t))
abbrev St.yi(d g:Nat)(p:Bool)(n a b:Nat):St:=.u d g p (.idx n (.tmp a) (.tmp b))
abbrev St.yn(d g:Nat)(p:Bool)(t:Nat):St:=.u d g p (.len (.tmp t))
abbrev St.ym(d g:Nat)(p:Bool)(t:Nat):St:=.u d g p (.mv (.tmp t))
abbrev St.yk(d g:Nat)(p:Bool)(o:BinOp)(a:Nat)(n:Int):St:=.u d g p (.cmp o (.tmp a) (.const (.int .i64 n)))
end Go.TM
namespace Go.TM
variable{T:Type}{P:Program}{S:Sys P T}
def Z5(U:Qa T)(a:Option Addr)(len:Nat)(l:List Int):Prop:=l.length=len/\∀i x,l[i]?=some x->∃b,a=some b/\b.spot=none/\U.sees (b.add (i*1)) (.int .i64 x)
def Q5(U:Qa T)(a:Option Addr)(len n:Nat){α:Type}(l:List α)(R:α->List Value->Prop):Prop:=
 l.length=len/\∀i x,l[i]?=some x->∃b vs,a=some b/\b.spot=none/\R x vs/\vs.length=n/\Jn U (b.add (i*n)) vs
def Z5.le{U U':Qa T}{a:Option Addr}{len:Nat}{l:List Int}(h:Z5 U a len l)(b:U.le U'):Z5 U' a len l:=
 ⟨h.1,λ i x f=>let ⟨ad,e,hs,hv⟩:=h.2 i x f;⟨ad,e,hs,hv.le b⟩⟩
def Q5.le{U U':Qa T}{a:Option Addr}{len n:Nat}{α:Type}{l:List α}{R R':α->List Value->Prop}(h:Q5 U a len n l R)(f:U.le U')(b:∀x vs,R x vs->R' x vs):Q5 U' a len n l R':=
 ⟨h.1,λ i x w=>let ⟨ad,vs,e,hs,hr,hn,hv⟩:=h.2 i x w;⟨ad,vs,e,hs,b _ _ hr,hn,hv.le f⟩⟩
theorem Z5.at{U:Qa T}{a:Option Addr}{len:Nat}{l:List Int}(h:Z5 U a len l){i:Nat}(f:i<len):∃b x,l[i]?=some x/\a=some b/\b.spot=none/\U.sees (b.add (i*1)) (.int .i64 x):=by
 have w:i<l.length:=by rw[h.1];exact f
 obtain⟨b,e,z,B⟩:=h.2 i l[i] S1;simp_all
theorem Q5.at{U:Qa T}{a:Option Addr}{len n:Nat}{α:Type}{l:List α}{R:α->List Value->Prop}(h:Q5 U a len n l R){i:Nat}(f:i<len) :
  ∃b x vs,l[i]?=some x/\a=some b/\b.spot=none/\R x vs/\vs.length=n/\Jn U (b.add (i*n)) vs:=by
 have w:i<l.length:=by rw[h.1];exact f
 obtain⟨b,vs,e,E,B,z,F⟩:=h.2 i l[i] S1;grind
def Jn.cell{U:Qa T}{a:Addr}{vs:List Value}(h:Jn U a vs){i:Nat}{v:Value}(b:vs[i]?=some v):U.sees (a.add i) v:=h i v b
theorem Z1{U:Qa T}{M':List Qx}(h:M'.Sublist U.M):Qw U { U with M:=M' }:=by
 refine⟨rfl,λ w ok=>⟨⟨ok.imm,λ r e=>ok.held r (h.subset e),ok.apart.sublist h,λ r e=>ok.sep r (h.subset e)⟩,λ l b=>?_,λ l b=>?_⟩⟩
 .rw[Q6]at b ⊢;obtain⟨r,e,b⟩:=b;exact⟨r,h.subset e,b⟩
 grind[Qy,id]
def EF{U U':Qa T}{b:Nat}{o:Obj}{M₀:List Qx}(z:WH U')(h:U'.M=.obj b o::M₀)(E:∀x f,U.I x=some f->U'.I x=some f)(w:U.M=M₀)(B:U'.tok=U.tok) :
  ∃e,Qw U' e/\U.le e/\e.I b=some o:=by
 refine⟨{ U' with I:=JI U'.I b o,M:=M₀ },We (by rw[h]),⟨λ x f G=>?_,w.symm,B⟩,by simp[JI]⟩;have F:U'.I b=none:=z (.obj b o) (by rw[h];simp);show JI U'.I b o x=_;unfold JI;grind
structure Qa.lg(U U':Qa T):Prop where
 imm:∀b o,U.I b=some o->U'.I b=some o
 own:∃A,U'.M=A++U.M
 tok:U'.tok=U.tok
def Qa.le.lg{U U':Qa T}(h:U.le U'):U.lg U':=⟨h.imm,⟨[],h.own⟩,h.tok⟩
def Qa.lg.trans{a b c:Qa T}(h:a.lg b)(k:b.lg c):a.lg c:=
 ⟨λ x o e=>k.imm x o (h.imm x o e),let ⟨A,e⟩:=h.own;let ⟨B,e'⟩:=k.own;⟨B++A,S2⟩,k.tok.trans h.tok⟩
def Z4{U:Qa T}(b:Nat)(o:Obj):U.lg (U.put b o):=⟨λ _ _ h=>h,⟨[.obj b o],rfl⟩,rfl⟩
theorem Qa.lg.shift{U U':Qa T}(h:U.lg U'):∃b,Qw U' b/\U.le b/\b.I=U'.I:=by
 obtain⟨A,e⟩:=h.own;exact⟨_,Z1 (M':=U.M) S2,⟨h.imm,rfl,h.tok⟩,rfl⟩
theorem Qb.go{f:FuncId}{args:Array Value}{U:Qa T}{c:Value}{K:Value->Qa T->Prop}(h:Qb S f args (λ v U'=>v=c/\U'=U) U)(k:K c U):Qb S f args K U:=h.mono λ v U'⟨a,b⟩=>by rw[a,b];exact k
def Qb.pure'{f:FuncId}{args:Array Value}{U:Qa T}{Q:Value->Prop}(h:Qb S f args (λ v U'=>Q v/\U.lg U') U):Qb S f args (λ v U'=>Q v/\U'=U) U:=
 h.post λ _ _⟨q,b⟩=>let ⟨_,h1,h2,_⟩:=b.shift;⟨U,h1.trans (Ie h2),q,rfl⟩
def Qa.sees.lg{U U':Qa T}{a:Addr}{v:Value}(h:U.sees a v)(b:U.lg U'):U'.sees a v:=by
 obtain⟨A,e⟩:=b.own;obtain⟨f,⟨c,t,fr,w,z⟩|⟨t,n,B⟩⟩:=h
 .exact⟨f,.inl ⟨c,t,fr,w.imp (b.imm _ _) (λ h=>S2),z⟩⟩
 .exact⟨f,.inr ⟨t,n,S2⟩⟩
def Jn.lg{U U':Qa T}{a:Addr}{vs:List Value}(h:Jn U a vs)(b:U.lg U'):Jn U' a vs:=λ i v e=>(h i v e).lg b
def Zi.lg{U U':Qa T}{b:Nat}{c:Array Value}(h:Zi U b c)(e:U.lg U'):Zi U' b c:=let ⟨t,fr,h⟩:=h;⟨t,fr,e.imm _ _ h⟩
def Z5.lg{U U':Qa T}{a:Option Addr}{len:Nat}{l:List Int}(h:Z5 U a len l)(b:U.lg U'):Z5 U' a len l:=
 ⟨h.1,λ i x f=>let ⟨ad,e,hs,hv⟩:=h.2 i x f;⟨ad,e,hs,hv.lg b⟩⟩
def Q5.lg{U U':Qa T}{a:Option Addr}{len n:Nat}{α:Type}{l:List α}{R R':α->List Value->Prop}(h:Q5 U a len n l R)(f:U.lg U')(b:∀x vs,R x vs->R' x vs):Q5 U' a len n l R':=
 ⟨h.1,λ i x w=>let ⟨ad,vs,e,hs,hr,hn,hv⟩:=h.2 i x w;⟨ad,vs,e,hs,b _ _ hr,hn,hv.lg f⟩⟩
end Go.TM
namespace Go.TM
variable{T:Type}{P:Program}{S:Sys P T}{f:Fm}{K:Value->Qa T->Prop}{U:Qa T}
def rq{s:Sem Value}(h:Qr P s (λ v U'=>∃b,Qw U' b/\K v b) U):Qr P (do pure (.value (<- s)):Sem Next) (ZN S λ v U'=>∃b,Qw U' b/\K v b) U:=by
 rw[Qd];exact h
def ru{s:Sem Unit}(h:Qr P s (λ _ U'=>∃b,Qw U' b/\K undef b) U):Qr P (do s;pure .skip:Sem Next) (ZN S λ v U'=>∃b,Qw U' b/\K v b) U:=by
 rw[Qd];exact h
def yu{m:Nat}{t e:TypeId}{a:Option Addr}{n c f c0:Nat}(b:P.underlying t=some (.slice e)){Q:Bool->Qa T->Prop}(h:Q a.isNone U):Qr P (Op.equalIn (m+1) t (.slice a n c) (.slice none f c0)) Q U:=by
 rw[Op.equalIn];simp only[Qd,Zg b];cases a <;> exact h
def K6{t e E F:TypeId}{x:Operand}{a:Option Addr}{n c b c0:Nat}(z:P.underlying t=some (.slice e))(B:Zj f x=.slice a n c)(h:K (.bool a.isNone) U) :
  OX S (.raw { dst:=none,op:=.binOp .eql t x (.const (.slice none b c0)) E,type:=F,pos := "", after:=#[],guard:=none }) f K U:=by
 intro a' w;simp only[execOp,w,B];refine rq ?_;rw[Qd];show Qr P (binOp .eql t (.slice a n c) (.slice none b c0)) _ U;show Qr P (do pure (Value.bool (<- Op.equal t (.slice a n c) (.slice none b c0))):Sem Value) _ U;rw[Qd];exact yu (m:=9999) z ⟨U,.refl _,h⟩
def WU:TypeDesc->Bool
 |.int _|.bool|.string=>true
 |_=>false
def HY:Value->Value->Bool
 |.int _ a,.int _ b=>a==b
 |.bool a,.bool b=>a==b
 |.string a,.string b=>a==b
 |_,_=>false
def X7:TypeDesc->Value->Bool
 |.int k,.int k' _=>decide (k=k')
 |.bool,.bool _=>true
 |.string,.string _=>true
 |_,_=>false
def FB{d:TypeDesc}{t:TypeId}{m:Nat}(h:P.underlying t=some d)(f:WU d=true){x y:Value}(b:X7 d x=true)(e:X7 d y=true)(Q:Bool->Qa T->Prop)(U:Qa T) :
  Qr P (Op.equalIn (m+1) t x y) Q U=Q (HY x y) U:=by
 rw[Op.equalIn];simp only[Qd,Zg h];cases d <;> simp[WU]at f <;> cases x <;> simp[X7]at b <;> cases y <;> simp[X7]at e
 .rfl
 .subst b;subst e;simp only[if_true];rfl
 .rfl
def H8(P:Program):List Field->Nat->Bool
 |[],_=>true
 |fd::r,j=>fd.name != "_"&&decide (fd.offset=j)&&(match P.underlying fd.type with|some d=>WU d|none=>false)&&H8 P r (j+1)
def JJ(P:Program):List Field->List Value->Bool
 |[],[]=>true
 |fd::r,v::vs=>(match P.underlying fd.type with|some d=>X7 d v|none=>false)&&JJ P r vs
 |_,_=>false
def ZJ:List Value->List Value->Bool
 |[],[]=>true
 |x::xs,y::ys=>HY x y&&ZJ xs ys
 |_,_=>false
def GJ{t:TypeId}{d:TypeDesc}{cs:Array Value}{j:Nat}{v:Value}(e:P.underlying t=some d)(b:WU d=true)(f:cs[j]?=some v)(Q:Value->Qa T->Prop)(U:Qa T) :
  Qr P (part t cs j) Q U=Q v U:=by
 have:TypeDesc.agg d=false:=by cases d <;> first|rfl|simp[WU]at b
 simp only[part,Qd,Hi e,this,Bool.false_eq_true,if_false,f];rfl
def V7{α β:Type}{x:α}{l:List α}{b:β}{g:α->β->Sem (ForInStep β)}{Q:β->Qa T->Prop} :
  Qr P (forIn (x::l) b g) Q U=Qr P (g x b) (λ r U=>match r with|.done b=>Q b U|.yield b=>Qr P (forIn l b g) Q U) U:=by
 rw[forIn_cons,Qd];congr 1;funext r U;cases r <;> rfl
def Ip{m:Nat}{xs ys:Array Value}{Q:Option Bool×PUnit->Qa T->Prop}:∀(z:List Field)(j:Nat)(vs ws:List Value),H8 P z j=true->JJ P z vs=true->JJ P z ws=true ->
  (∀i v,vs[i]?=some v->xs[j+i]?=some v)->(∀i v,ws[i]?=some v->ys[j+i]?=some v)->Q (if ZJ vs ws then none else some false,()) U ->
  Qr P (forIn z ((none,()):Option Bool×PUnit) λ fd _=>
   if fd.name ≠ "_" then do
    let a <- part fd.type xs fd.offset
    let b <- part fd.type ys fd.offset
    let c <- Op.equalIn (m+1) fd.type a b
    if(!c)=true then pure (ForInStep.done (some false,()))else pure (ForInStep.yield (none,()))
   else pure (ForInStep.yield (none,()))) Q U
 |[],j,vs,ws,_,e,f,_,_,h=>by
  cases vs <;> cases ws <;> simp[JJ]at e f;exact h
 |fd::r,j,vs,ws,I,e,f,K,L,h=>by
  cases vs with
  |nil=>simp[JJ]at e
  |cons v vs=>
  cases ws with
  |nil=>simp[JJ]at f
  |cons w ws=>
  simp only[H8,Bool.and_eq_true,decide_eq_true_eq]at I;obtain⟨⟨⟨M,N⟩,B⟩,S⟩:=I;simp only[JJ,Bool.and_eq_true]at e f;cases E:P.underlying fd.type with
  |none=>simp_all
  |some d=>
   rw[E]at B e f;rw[V7,if_pos (by simpa using M)];simp only[Qd,N];have G:xs[j]?=some v:=by simpa using K 0 v rfl
   have H:ys[j]?=some w:=by simpa using L 0 w rfl
   rw[GJ E B G,GJ E B H,FB E B e.1 f.1];cases V:HY v w with
   |false=>grind[ZJ,Qk]
   |true=>
    simp only[Bool.not_true,Bool.false_eq_true,if_false,Qk];refine Ip r (j+1) vs ws S e.2 f.2 (λ i v F=>?_) (λ i v F=>?_) (by grind[ZJ])
    .have:=K (i+1) v F;grind
    .have:=L (i+1) v F;grind
def SG{t:TypeId}{b:Array Field}(E:P.underlying t=some (.struct b))(f:P.stoodInHeld t=false)(B:H8 P b.toList 0=true){vs ws:List Value}(F:JJ P b.toList vs=true)(G:JJ P b.toList ws=true)
  {Q:Bool->Qa T->Prop} (h:Q (ZJ vs ws) U):Qr P (Op.equal t (.agg vs.toArray) (.agg ws.toArray)) Q U:=by
 have w:Op.equal t (.agg vs.toArray) (.agg ws.toArray)=Op.equalIn (9998+1+1) t (.agg vs.toArray) (.agg ws.toArray):=rfl;rw[w,Op.equalIn];simp only[Qd,Zg E,program,Qr,f,Bool.false_eq_true,if_false];obtain⟨z⟩:=b;rw[forIn_toArray];refine Ip z 0 vs ws B F G (λ i v e=>by simpa using e) (λ i v e=>by simpa using e) ?_;grind[ZJ,Qk]
def O9{op:BinOp}{t:TypeId}{x y:Operand}{vs ws:Array Value}(b:P.eqGuardType P.depth t=false){Q:Unit->Qa T->Prop}(h:Q () U):Qr P (eqGuard op t x y (.agg vs) (.agg ws)) Q U:=by
 unfold eqGuard
 have key (u:Unsupported):Qr P (do
     if !(<- program).eqGuardType (<- program).depth t then return
     if <- Op.eqGuardIn Op.maxDepth t (.agg vs) (.agg ws)then unsupported u:Sem Unit) Q U:=by
  simp only[Qd,program,Qr,b,Bool.not_false,if_true,Qk];exact h
 cases op <;> first|exact key _|exact h
structure G2(P:Program)(t:TypeId)(fs:Array Field):Prop where
 u:P.underlying t=some (.struct fs)
 s:P.stoodInHeld t=false
 f:H8 P fs.toList 0=true
 g:P.eqGuardType P.depth t=false
def pk{t F G:TypeId}{b:Array Field}(k:G2 P t b){x y:Operand}{vs ws:List Value}(B:Zj f x=.agg vs.toArray)(E:Zj f y=.agg ws.toArray)(w:JJ P b.toList vs=true)(z:JJ P b.toList ws=true)(h:K (.bool (ZJ vs ws)) U) :
  OX S (.raw { dst:=none,op:=.binOp .eql t x y F,type:=G,pos := "", after:=#[],guard:=none }) f K U:=by
 intro a' e;simp only[execOp,e,B,E];refine rq ?_;rw[Qd];refine O9 k.g ?_;simp only[binOp,Qd];exact SG k.u k.s k.f w z ⟨U,.refl _,h⟩
def xj{t F G:TypeId}{b:Array Field}(k:G2 P t b){x y:Operand}{vs ws:List Value}(B:Zj f x=.agg vs.toArray)(E:Zj f y=.agg ws.toArray)(w:JJ P b.toList vs=true)(z:JJ P b.toList ws=true)(h:K (.bool (!ZJ vs ws)) U) :
  OX S (.raw { dst:=none,op:=.binOp .neq t x y F,type:=G,pos := "", after:=#[],guard:=none }) f K U:=by
 intro a' e;simp only[execOp,e,B,E];refine rq ?_;rw[Qd];refine O9 k.g ?_;simp only[binOp,Qd];exact SG k.u k.s k.f w z ⟨U,.refl _,h⟩
def Qs{κ:Type}(enc:κ->Value):List (κ×Value)->Nat->List MapEntry
 |[],_=>[]
 |p::l,i=>⟨enc p.1,p.2,i⟩::Qs enc l (i+1)
def Qt{κ:Type}(enc:κ->Value)(l:List (κ×Value)):Obj:=.map (Qs enc l 0).toArray l.length
def QM{κ:Type}[DecidableEq κ](k:κ):List (κ×Value)->Nat->Option (Nat×Value)
 |[],_=>none
 |p::l,i=>if k=p.1 then some (i,p.2)else QM k l (i+1)
def lk{κ:Type}[DecidableEq κ](k:κ)(l:List (κ×Value)):Option Value:=(QM k l 0).map (·.2)
def ZF{κ:Type}[DecidableEq κ](k:κ)(v:Value):List (κ×Value)->List (κ×Value)
 |[]=>[(k,v)]
 |p::l=>if k=p.1 then(p.1,v)::l else p::ZF k v l
structure WJ(T:Type)(P:Program)(kt:TypeId){κ:Type}[DecidableEq κ](enc:κ->Value):Prop where
 chk:∀(e:Bool)(k:κ){Q:Unit->Qa T->Prop}{U:Qa T},Q () U->Qr P (Instr.checkKey e 10000 kt (enc k)) Q U
 find:∀(k:κ)(l:List (κ×Value)){Q:Option (Nat×Value)->Qa T->Prop}{U:Qa T},Q (QM k l 0) U->Qr P (Instr.findKey kt (enc k) (Qs enc l 0)) Q U
 bits:∀k,Instr.sameBits 10000 (enc k) (enc k)=true
def Fz{κ:Type}[DecidableEq κ]{enc:κ->Value}{d:TypeDesc}(h:∀k k',Instr.sameNow d (enc k) (enc k')=some (decide (k=k')))(k:κ):∀(l:List (κ×Value))(i j:Nat),Instr.findNow d (enc k) (Qs enc l j) i=some (QM k l i)
 |[],i,j=>rfl
 |p::l,i,j=>by
  simp only[Qs,Instr.findNow,h,QM];by_cases e:k=p.1
  .simp[e]
  simp_all[decide_false,if_false,Fz]
def M0{κ:Type}{enc:κ->Value}{d:TypeDesc}(h:∀k k',Instr.sameNow d (enc k) (enc k')=none)(k:κ)(p:κ×Value)(l:List (κ×Value))(i j:Nat):Instr.findNow d (enc k) (Qs enc (p::l) j) i=none:=by
 grind[Qs,Instr.findNow]
def ON{κ:Type}[DecidableEq κ]{enc:κ->Value}{f:TypeId}(h:∀k k'{Q:Bool->Qa T->Prop}{U:Qa T},Q (decide (k=k')) U->Qr P (Op.equal f (enc k) (enc k')) Q U)(k:κ) :
  ∀(l:List (κ×Value))(i j:Nat){Q:Option (Nat×Value)->Qa T->Prop}{U:Qa T},Q (QM k l i) U->Qr P (Instr.findAsking f (enc k) (Qs enc l j) i) Q U
 |[],i,j,Q,U,b=>b
 |p::l,i,j,Q,U,b=>by
  simp only[Qs,Instr.findAsking,Qd];refine h k p.1 ?_;by_cases e:k=p.1
  .simpa[e,QM,Qk]using b
  simp_all[decide_false,Bool.false_eq_true,if_false,ON,QM]
def WJ.simple{b:TypeId}{d:TypeDesc}{κ:Type}[DecidableEq κ]{enc:κ->Value}(f:P.underlying b=some d)(z:WU d=true)(B:∀k k',Instr.sameNow d (enc k) (enc k')=some (decide (k=k')))(w:∀k,Instr.sameBits 10000 (enc k) (enc k)=true):WJ T P b enc:=by
 refine⟨λ e k Q U h=>?_,λ k l Q U h=>?_,w⟩
 .have:∀m,Qr P (Instr.checkKey e (m+1) b (enc k)) Q U:=λ m=>by
   rw[Instr.checkKey];simp only[Qd,Zg f];cases d <;> simp[WU]at z <;> exact h
  exact this 9999
 .unfold Instr.findKey;simp only[Qd,Zg f,Fz B k l 0 0];exact h
def ES{m:Nat}{e:Bool}{xs:Array Value}{Q:PUnit->Qa T->Prop}:∀(w:List Field)(j:Nat)(vs:List Value),H8 P w j=true->JJ P w vs=true->(∀i v,vs[i]?=some v->xs[j+i]?=some v)->Q () U ->
  Qr P (forIn w PUnit.unit λ fd _=>
   if fd.name ≠ "_" then do
    let a <- part fd.type xs fd.offset
    Instr.checkKey e (m+1) fd.type a
    pure (ForInStep.yield PUnit.unit)
   else pure (ForInStep.yield PUnit.unit)) Q U
 |[],_,_,_,_,_,h=>h
 |fd::r,j,vs,F,f,G,h=>by
  cases vs with
  |nil=>simp[JJ]at f
  |cons v vs=>
  simp only[H8,Bool.and_eq_true,decide_eq_true_eq]at F;obtain⟨⟨⟨H,I⟩,z⟩,K⟩:=F;simp only[JJ,Bool.and_eq_true]at f;cases B:P.underlying fd.type with
  |none=>simp_all
  |some d=>
   rw[B]at z f;rw[V7,if_pos (by simpa using H)];have E:xs[j]?=some v:=by simpa using G 0 v rfl
   simp only[Qd,I];rw[GJ B z E]
   have b:∀Q:Unit->Qa T->Prop,Qr P (Instr.checkKey e (m+1) fd.type v) Q U=Q () U:=λ Q=>by
    rw[Instr.checkKey];simp only[Qd,Zg B];cases d <;> simp[WU]at z <;> rfl
   rw[b];simp only[Qk];refine ES r (j+1) vs K f.2 (λ i v L=>?_) h;have:=G (i+1) v L;grind
def WJ.struct{B:TypeId}{z:Array Field}{κ:Type}[DecidableEq κ]{enc:κ->List Value}(w:G2 P B z)(b:∀k,JJ P z.toList (enc k)=true)(G:∀k k',ZJ (enc k) (enc k')=decide (k=k'))(F:∀k,Instr.sameBits 10000 (.agg (enc k).toArray) (.agg (enc k).toArray)=true) :
  WJ T P B (λ k=>.agg (enc k).toArray):=by
 refine⟨λ e k Q U h=>?_,λ k l Q U h=>?_,F⟩
 .have:∀m,Qr P (Instr.checkKey e (m+1+1) B (.agg (enc k).toArray)) Q U:=λ m=>by
   rw[Instr.checkKey];simp only[Qd,Zg w.u];obtain⟨E⟩:=z;rw[forIn_toArray];exact ES E 0 (enc k) w.f (b k) (λ i v H=>by simpa using H) h
  exact this 9998
 .unfold Instr.findKey;simp only[Qd,Zg w.u];cases l with
  |nil=>exact h
  |cons p l=>
   rw[M0 (enc:=λ k=>Value.agg (enc k).toArray) (λ _ _=>rfl)];exact ON (λ k k' Q U I=>SG w.u w.s w.f (b k) (b k') (by rw[G];exact I)) k (p::l) 0 0 h
def Pu{κ:Type}(enc:κ->Value){t w:TypeId}(h:∀b,U.free b->K (.map (some b)) (U.put b (Qt enc []))) :
  OX S (.raw { dst:=none,op:=.makeMap t none,type:=w,pos := "", after:=#[],guard:=none }) f K U:=by
 intro a' z;simp only[execOp];refine rq ?_;simp only[Instr.makeMap,Qd,newObj,Qr,Qk,Option.map_none];exact λ b e=>⟨_,.refl _,h b e⟩
def Iw{κ:Type}[DecidableEq κ]{enc:κ->Value}{t B E:TypeId}{z:Value}{b:Nat}{l:List (κ×Value)}{k:κ}{ok:Bool}(w:WJ T P B enc)(H:P.underlying t=some (.map B E))(I:Xq P E=some z)
  (G:U.has b (Qt enc l)) {Q:Value->Qa T->Prop} (h:Q (if ok then .tuple #[(lk k l).getD z,.bool (lk k l).isSome]else(lk k l).getD z) U):Qr P (Instr.lookup t (.map (some b)) (enc k) ok) Q U:=by
 obtain⟨K,F,f⟩:=PF I;unfold Instr.lookup;simp only[Qd,Zg H,getObj];refine⟨_,G,rfl,rfl,?_⟩;simp only[Qr,Qt,Qk,Qd];refine w.chk _ _ ?_;refine w.find k l ?_;unfold lk at h;cases e:QM k l 0 with
 |none=>simp only[e,Option.map_none,Option.getD_none,Option.isSome_none]at h;simp only[Qd,XN F f,Qk];exact h
 |some p=>simp only[e,Option.map_some,Option.getD_some,Option.isSome_some]at h;simp only[Qk];exact h
def Ts{κ:Type}[DecidableEq κ]{enc:κ->Value}{t e w M:TypeId}{z:Value}{b:Nat}{l:List (κ×Value)}{k:κ}{x y:Operand}(E:WJ T P e enc)(G:P.underlying t=some (.map e w))(L:Xq P w=some z)
  (H:Zj f x=.map (some b)) (I:Zj f y=enc k) (F:U.has b (Qt enc l)) (h:K ((lk k l).getD z) U) :
  OX S (.raw { dst:=none,op:=.lookup t x y false,type:=M,pos := "", after:=#[],guard:=none }) f K U:=by
 intro a' B;simp only[execOp,B,H,I];exact rq (Iw E G L F ⟨U,.refl _,h⟩)
def TT{κ:Type}[DecidableEq κ]{enc:κ->Value}{t e w M:TypeId}{z:Value}{b:Nat}{l:List (κ×Value)}{k:κ}{x y:Operand}(E:WJ T P e enc)(G:P.underlying t=some (.map e w))(L:Xq P w=some z)
  (H:Zj f x=.map (some b)) (I:Zj f y=enc k) (F:U.has b (Qt enc l)) (h:K (.tuple #[(lk k l).getD z,.bool (lk k l).isSome]) U) :
  OX S (.raw { dst:=none,op:=.lookup t x y true,type:=M,pos := "", after:=#[],guard:=none }) f K U:=by
 intro a' B;simp only[execOp,B,H,I];exact rq (Iw E G L F ⟨U,.refl _,h⟩)
def wM{κ:Type}(enc:κ->Value):∀(l:List (κ×Value))(i:Nat),(Qs enc l i).length=l.length
 |[],_=>rfl
 |_::l,i=>by simp[Qs,wM enc l]
def TK{κ:Type}(enc:κ->Value):∀(l l':List (κ×Value))(i:Nat),Qs enc (l++l') i=Qs enc l i++Qs enc l' (i+l.length)
 |[],l',i=>by simp[Qs]
 |p::l,l',i=>by simp[Qs,TK enc l l' (i+1)];congr 1;omega
theorem YW{κ:Type}[DecidableEq κ]{k:κ}{v:Value}:∀{l:List (κ×Value)}{i:Nat},QM k l i=none->ZF k v l=l++[(k,v)]
 |[],_,_=>rfl
 |p::l,i,h=>by
  simp only[QM]at h;split at h
  .cases h
  .rename_i e;simp only[ZF,if_neg e,cons_append,YW h]
def Fe{κ:Type}[DecidableEq κ]{enc:κ->Value}{k:κ}{v:Value}:∀{l:List (κ×Value)}{i j n:Nat}{x:Value},QM k l i=some (n,x)->i<=n/\(∃e,(Qs enc l j)[n-i]?=some e/\e.key=enc k) /\
   (Qs enc l j).modify (n-i) (λ e=>{ e with key:=enc k,val:=v })=Qs enc (ZF k v l) j/\(ZF k v l).length=l.length
 |[],_,_,_,_,h=>by cases h
 |p::l,i,j,n,x,h=>by
  simp only[QM]at h;split at h
  .simp_all[Nat.le_refl,Qs,ZF]
  .rename_i e;obtain⟨B,⟨x,f,b⟩,E,w⟩:=Fe (enc:=enc) (v:=v) (j:=j+1) h;have z:n-i=(n-(i+1))+1:=O1
   refine⟨O1,?_,?_,by simp[ZF,e,w]⟩
   .rw[z];exact⟨x,by simpa[Qs]using f,b⟩
   simp_all[Qs,ZF,if_neg,modify_succ_cons]
def Uv{κ:Type}[DecidableEq κ]{enc:κ->Value}{t G vt ty:TypeId}{b:Nat}{l:List (κ×Value)}{k:κ}{v:Value}{x y u:Operand}{M':List Qx}(E:WJ T P G enc)(X:P.underlying t=some (.map G vt))
  (Z:Zj f x=.map (some b)) (hy:Zj f y=enc k) (Y:Zj f u=v) (W:J4 b (Qt enc (ZF k v l)) (Qt enc l) U.M M') (h:K undef { U with M:=M' }) :
  OX S (.raw { dst:=none,op:=.mapUpdate t x y u,type:=ty,pos := "", after:=#[],guard:=none }) f K U:=by
 intro a' Q;simp only[execOp,Q,Z,hy,Y];refine ru ?_;unfold Instr.mapUpdate;simp only[Qd,Zg X,getObj];refine⟨_,.inr W.mem,rfl,rfl,?_⟩;simp only[Qr,Qt,Qk,Qd];refine E.chk _ _ ?_;refine E.find k l ?_;cases e:QM k l 0 with
 |none=>
  have F:=YW (v:=v) e;simp only[setObj,Qr];refine⟨Qt enc l,M',?_,rfl,rfl,rfl,⟨_,.refl _,h⟩⟩
  have:Obj.map ((Qs enc l 0).toArray.push { key:=enc k,val:=v,born:=l.length }) (l.length+1)=Qt enc (ZF k v l):=by
   rw[F];simp only[Qt,length_append,length_cons,length_nil,TK,Qs,Nat.zero_add];congr 1;apply Array.ext';simp
  simp_all
 |some p=>
  obtain⟨n,w⟩:=p;obtain⟨h1,⟨H,I,B⟩,L,N⟩:=Fe (enc:=enc) (v:=v) (j:=0) e
  have V:(((Qs enc l 0).toArray[n]?).map (·.key)).getD (enc k)=enc k:=by
   have:(Qs enc l 0).toArray[n]?=some H:=by simpa using I
   rw[this];exact B
  simp only[Qd,Instr.keyThatStays,V,E.bits,if_true,Qk,setObj,Qr];refine⟨Qt enc l,M',?_,rfl,rfl,rfl,⟨_,.refl _,h⟩⟩
  have:Obj.map ((Qs enc l 0).toArray.modify n λ e=>{ e with key:=enc k,val:=v }) l.length=Qt enc (ZF k v l):=by
   simp only[Qt,N];congr 1;apply Array.ext';have z:=L;rw[Nat.sub_zero]at z;simpa using z
  simp_all
def GE{b off:Nat}{e:TypeId}{M₀:List Qx}{Q:Qa T->Prop}:∀(vs:List Value)(i:Nat)(c:Array Value)(U:Qa T),U.M=.obj b (.cells c e (0,0))::M₀->(∀v∈vs,v.single=true)->off+i+vs.length<=c.size ->
  Q { U with M:=.obj b (.cells (JX c off vs i) e (0,0))::M₀ }->ZA ⟨b,off,none⟩ vs i Q U
 |[],i,c,U,f,_,_,h=>by
  have:U={ U with M:=.obj b (.cells c e (0,0))::M₀ }:=by rw[<- f]
  show Q U;rw[this];exact h
 |v::vs,i,c,U,f,w,z,h=>by
  simp only[length_cons]at z;refine⟨w v (mem_cons_self ..),.obj b (.cells (c.setIfInBounds (off+i) v) e (0,0))::M₀,?_,?_⟩
  .rw[f,Qo];exact .obj (a:=⟨b,off+i,none⟩) rfl (by show off+i<c.size;omega)
  .exact GE vs (i+1) _ _ rfl (λ v B=>w v (mem_cons_of_mem _ B)) S3 h
def Y7{vs:List Value}{c:Array Value}(h:c.size=vs.length):JX c 0 vs 0=vs.toArray:=by
 apply Array.ext
 .grind[V_]
 .intro i h1 h2;have b:i<vs.length:=by simpa using h2
  have:=PK vs c 0 0 i O1;simp_all
def Zt{b:Nat}{c:Array Value}{t:TypeId}{vs:List Value}{Q:Qa T->Prop}(w:U.free b)(f:c.size=vs.length)(z:∀v∈vs,v.single=true)(h:∀e,U.le e->Zi e b vs.toArray->Q e) :
  ZA ⟨b,0,none⟩ vs 0 (λ U'=>∃e,Qw U' e/\Q e) (U.put b (.cells c t)):=by
 refine GE vs 0 c _ rfl z O1 ?_;rw[Y7 f];exact⟨_,We (b:=b) (M':=U.M) (Perm.refl _),h _ (GF w) Zi.new⟩
def Acc(e:TypeId)(n:Nat)(v:Value)(cs:List Value)(M M₀:List Qx):Prop:=
 (v=.slice none 0 0/\cs=[]/\M=M₀) \/
 (∃(b:Nat)(c:Array Value)(len cap:Nat),v=.slice (some ⟨b,0,none⟩) len cap/\cs.length=len*n/\len<=cap/\c.size=cap*n/\M=.obj b (.cells c e (0,0))::M₀/\∀(i:Nat)(x:Value),cs[i]?=some x->c[i]?=some x)
def Yy:Value->Bool
 |.slice none _ _=>true
 |_=>false
def Acc.nil{e:TypeId}{n:Nat}{M₀:List Qx}:Acc e n (.slice none 0 0) [] M₀ M₀:=.inl ⟨rfl,rfl,rfl⟩
def Acc.empty{e:TypeId}{n b:Nat}{M₀:List Qx}:Acc e n (.slice (some ⟨b,0,none⟩) 0 0) [] (.obj b (.cells #[] e (0,0))::M₀) M₀:=
 .inr ⟨b,#[],0,0,rfl,S1,Nat.le_refl _,S1,rfl,λ i x h=>by simp at h⟩
theorem EV(b:Nat):∀(r c:Nat),Builtin.growBy b r c<=max c (b+(b+768) / 4)
 |0,c=>by grind[Builtin.growBy]
 |r+1,c=>by
  simp only[Builtin.growBy];split
  .omega
  .have:=EV b r (c+(c+768) / 4);omega
def QF{need old:Nat}(h:old<need):Builtin.nextslicecap need old<=2*need+192:=by
 grind[Builtin.nextslicecap,EV]
def QS(U:Qa T)(a:Option Addr)(cs:List Value):Prop:=(a=none/\cs=[])\/∃b,a=some b/\Jn U b cs
def H6{U:Qa T}{a:Option Addr}{l c n:Nat}{cs:List Value}(h:QS U a cs)(e:cs.length=l*n){Q:Array Value->Qa T->Prop}(b:Q cs.toArray U):Qr P (Builtin.firstCells n l (.slice a l c)) Q U:=by
 rcases h with⟨rfl,rfl⟩|⟨w,rfl,f⟩
 .exact b
 .simp only[Builtin.firstCells];rw[<- e];exact f.cells b
def GZ{k:Nat}{Q:Unit->Qa T->Prop}(h:Q () U):Qr P (askRoom k) Q U:=by
 unfold askRoom;split
 .exact⟨rfl,h⟩
 .exact h
def Nc{b:Nat}{c:Array Value}{e:TypeId}{M₀:List Qx}{cs:List Value}(f:U.M=.obj b (.cells c e (0,0))::M₀)(h:∀(i:Nat)(x:Value),cs[i]?=some x->c[i]?=some x):Jn U ⟨b,0,none⟩ cs:=by
 intro i v w;rw[Qo];exact⟨rfl,.inl ⟨c,e,(0,0),.inr (by rw[f];simp),S2⟩⟩
def Acc.src{e n:Nat}{v:Value}{cs:List Value}{M₀:List Qx}(h:Acc e n v cs U.M M₀):∃a l c,v=.slice a l c/\cs.length=l*n/\QS U a cs:=by
 rcases h with⟨rfl,rfl,f⟩|⟨b,c,len,cap,rfl,w,B,E,f,z⟩
 .exact⟨_,_,_,rfl,S1,.inl ⟨rfl,rfl⟩⟩
 .exact⟨_,_,_,rfl,w,.inr ⟨_,rfl,Nc f z⟩⟩
def NA{t t2 e e2 n ty:Nat}{z v:Value}{B:TypeInfo}{x y:Operand}{ya:Option Addr}{yl yc:Nat}{cs new:List Value}{M₀:List Qx}
  (hu:P.underlying t=some (.slice e)) (ag:P.underlying t2=some (.slice e2)) (L:P.info? e=some B) (af:B.size=n) (hz:B.zero=some z) (ah:z.cells.size=n) (V:B.bytes≠0/\B.bytes<=1024)
  (hx:Zj f x=v) (hy:Zj f y=.slice ya yl yc) (Z:Acc e n v cs U.M M₀) (Q:QS U ya new) (N:new.length=yl*n) (hn:0<n) (T:∀w∈new,w.single=true) (ai:cs.length+new.length<=1048576)
  (h:∀v' M',Acc e n v' (cs++new) M' M₀->Yy v'=(Yy v&&new.isEmpty)->K v' { U with M:=M' }) :
  OX S (.raw { dst:=none,op:=.call { callee:=.builtin .append,args:=#[x,y],argTypes:=#[t,t2] },type:=ty,pos := "", after:=#[],guard:=none }) f K U:=by
 intro a' ad;obtain⟨sa,sl,sc,G,F,ae⟩:=Z.src;have hm:(#[x,y]:Array Operand).map a'.eval=#[.slice sa sl sc,.slice ya yl yc]:=by simp[ad,hx,hy,G]
 simp only[execOp,resolve,hm,Qd,Qk,invoke,builtin];show Qr P (Builtin.append_ #[t,t2] ty #[.slice sa sl sc,.slice ya yl yc]) _ U;unfold Builtin.append_;simp only[getElem?_toArray,getElem?_cons_zero,getElem?_cons_succ,Qd,Zg hu,Zg ag,Jh L,af,Qk,Bool.false_eq_true,if_false,Builtin.lenOf,Wi L,false_or,Bool.not_false,if_true];have ak:sl<=cs.length:=by rw[F];exact Nat.le_mul_of_pos_right _ hn
 have al:yl<=new.length:=by rw[N];exact Nat.le_mul_of_pos_right _ hn
 have I:(cs++new).length=(sl+yl)*n:=by rw[length_append,F,N,Nat.add_mul]
 split
 .rename_i hle;rw[Qd];refine H6 Q N ?_;rcases Z with⟨rfl,rfl,H⟩|⟨b,c,len,cap,rfl,h1,h2,Y,H,h4⟩
  .cases G;have:yl=0:=O1
   subst this;have X:new=[]:=by simpa using N
   subst X;refine⟨U,.refl _,?_⟩;have:=h (.slice none 0 0) U.M (.inl ⟨rfl,rfl,H⟩) rfl;exact this
  .cases G;simp only[Qd];refine GR _ _ _ ?_;rw[Qo]
   have E:0+sl*n+0+new.length<=c.size:=by
    have:(sl+yl)*n<=sc*n:=Nat.mul_le_mul_right n hle;rw[Nat.add_mul]at this;rw[Y,N];omega
   refine GE _ _ c U H T E ?_;refine⟨_,.refl _,h _ _ (.inr ⟨b,_,sl+yl,sc,rfl,I,hle,by rw[V_];exact Y,rfl,λ i x L=>?_⟩) rfl⟩;rw[PK _ _ _ _ _ E];grind
 .rename_i hgt;have ab:¬(((sl+yl:Nat):Int) > IntKind.i64.max/\B.bytes=0):=λ h=>V.1 h.2
  have ac:¬(Builtin.nextslicecap (sl+yl) sc*B.bytes > 2^48):=by
   have:=QF (need:=sl+yl) (old:=sc) O1;have h2:Builtin.nextslicecap (sl+yl) sc*B.bytes<=(2*(sl+yl)+192)*1024:=Nat.mul_le_mul this V.2;have aa:(2:Nat)^48=281474976710656:=D1
   rw[aa];omega
  simp only[Wi L,Qd];rw[if_neg ab];simp only[Wi L,Qd];rw[if_neg ac];simp only[choose,Qd];show ∀tt,Qr P _ _ U;intro tt;show Qr P (typeInfo e) _ U;rw[Wi L];refine GZ ?_;refine H6 ae F ?_;refine H6 Q N ?_;simp only[XN L hz];refine Jk λ b' aj=>?_;have W:sl+yl<=Question.cut (.appendCap (sl+yl) sc e) tt:=by simp only[Question.cut];omega
  refine⟨_,Z1 (M':=.obj b' (.cells (cs.toArray++new.toArray++Builtin.zeroCells z.cells (Question.cut (.appendCap (sl+yl) sc e) tt-(sl+yl))) e)::M₀) ?_,?_⟩
  .show Sublist _ (.obj b' _::U.M);refine Sublist.cons_cons _ ?_;rcases Z with⟨rfl,rfl,H⟩|⟨b,c,len,cap,rfl,h1,h2,Y,H,h4⟩
   .rw[H];exact Sublist.refl _
   simp_all
  .refine h _ _ (.inr ⟨b',_,sl+yl,Question.cut (.appendCap (sl+yl) sc e) tt,rfl,I,W,?_,rfl,λ i x L=>?_⟩) ?_
   .simp only[Array.size_append,size_toArray,F,N,Builtin.zeroCells,Array.size_map,Array.size_range,ah];rw[<- Nat.add_mul,<- Nat.add_mul];congr 1;omega
   .grind
   .rcases Z with⟨rfl,rfl,H⟩|⟨b,c,len,cap,rfl,h1,h2,Y,H,h4⟩
    .cases G;have:new≠[]:=by rintro rfl;simp at N;omega
     cases new with
     |nil=>simp_all
     |cons=>rfl
    .rfl
def Fw(P:Program)(t e n:Nat):Bool:=
 (match P.underlying t with|some (.slice e')=>decide (e'=e)|_=>false)&&(match P.info? e with
  |some b=>decide (b.size=n)&&(match b.zero with|some z=>decide (z.cells.size=n)|none=>false)&&decide (b.bytes≠0)&&decide (b.bytes<=1024)
  |none=>false)&&decide (0<n)
structure Xa(P:Program)(t e n:Nat):Prop where
 u:P.underlying t=some (.slice e)
 i:∃inf z,P.info? e=some inf/\inf.size=n/\inf.zero=some z/\z.cells.size=n/\inf.bytes≠0/\inf.bytes<=1024
 n:0<n
theorem Xa.of{t e n:Nat}(h:Fw P t e n=true):Xa P t e n:=by
 unfold Fw at h;simp only[Bool.and_eq_true,decide_eq_true_eq]at h;obtain⟨⟨b,w⟩,f⟩:=h;refine⟨?_,?_,f⟩
 .split at b
  .rename_i e' hu;simp only[decide_eq_true_eq]at b;subst b;exact hu
  .cases b
 grind
def Ws{t e n ty:Nat}{v:Value}{x y:Operand}{G:Option Addr}{yl yc:Nat}{cs new:List Value}{M₀:List Qx}(k:Xa P t e n)
  (X:Zj f x=v) (Y:Zj f y=.slice G yl yc) (V:Acc e n v cs U.M M₀) (E:QS U G new) (W:new.length=yl*n) (b:∀w∈new,w.single=true) (B:cs.length+new.length<=1048576)
  (h:∀F M',Acc e n F (cs++new) M' M₀->Yy F=(Yy v&&new.isEmpty)->K F { U with M:=M' }) :
  OX S (.raw { dst:=none,op:=.call { callee:=.builtin .append,args:=#[x,y],argTypes:=#[t,t] },type:=ty,pos := "", after:=#[],guard:=none }) f K U:=by
 obtain⟨Z,z,H,I,L,N,Q,T⟩:=k.i;exact NA k.u k.u H I L N ⟨Q,T⟩ X Y V E W k.n b B h
def K_(P:Program)(t:TypeId):Array Field:=match P.underlying t with|some (.struct b)=>b|_=>#[]
def Da(P:Program)(t:TypeId):Bool:=
 (match P.underlying t with|some (.struct _)=>true|_=>false)&&!P.stoodInHeld t&&H8 P (K_ P t).toList 0&&!P.eqGuardType P.depth t
theorem G2.of{t:TypeId}(h:Da P t=true):G2 P t (K_ P t):=by
 unfold Da at h;simp only[Bool.and_eq_true,Bool.not_eq_true']at h;obtain⟨⟨⟨w,b⟩,e⟩,f⟩:=h;refine⟨?_,b,e,f⟩;grind[K_]
def EK{t e ty n:Nat}{z:Value}{w:TypeInfo}{x y:Operand}(Y:P.underlying t=some (.slice e))(G:P.info? e=some w)(hz:w.zero=some z)(M:z.cells=#[z])(L:w.size=1)(F:w.bytes<=64)
  (hx:Zj f x=.int .i64 n) (hy:Zj f y=.int .i64 n) (X:n<=1048576) (h:∀b,U.free b->K (.slice (some ⟨b,0,none⟩) n n) (U.put b (.cells (replicate n z).toArray e))) :
  OX S (.raw { dst:=none,op:=.makeSlice t x y,type:=ty,pos := "", after:=#[],guard:=none }) f K U:=by
 intro a' Q;simp only[execOp,Q,hx,hy];refine rq ?_;unfold Instr.makeSlice;have Z:IntKind.wrap .i64 (n:Int)=n:=Gb I1;simp only[Qd,Zg Y,asInt,asIntOf,Qk,Wi G,Z]
 have W:(w.bytes:Int)*(n:Int)<=67108864:=by
  have:=Nat.mul_le_mul F X;have e:((w.bytes*n:Nat):Int)=(w.bytes:Int)*n:=S1
  omega
 have E:(2:Int)^48=281474976710656:=D1
 have I:(((decide ((n:Int)<0)|| decide ((w.bytes:Int)*(n:Int) > 2^48))|| decide ((n:Int)<0))|| decide ((n:Int) > n))=false:=by
  rw[E];simp only[Bool.or_eq_false_iff,decide_eq_false_iff_not];omega
 simp only[I,Bool.false_eq_true,if_false];rw[Qd];refine GZ ?_;simp only[Qd,Jh G,L,Nat.mul_one,Int.toNat_natCast]
 have fin:∀c:Array Value,(n≠0->c=z.cells)->Qr P (newRow e ((Array.range n).map (c[· % c.size]!))) (λ a U'=>∃N,Qw U' N/\K (.slice (some a) n n) N) U:=by
  intro c V;refine Jk λ b T=>⟨_,.refl _,?_⟩
  have:(Array.range n).map (c[· % c.size]!)=(replicate n z).toArray:=by
   apply Array.ext
   .simp
   .intro i h1 h2;have H:n≠0:=by simp at h1;omega
    have B:=V H;rw[M]at B;subst B;simp[Nat.mod_one]
  rw[this];exact h b T
 split
 .rename_i h0;exact fin #[] λ h=>absurd h0 h
 .simp only[Qd,XN G hz];exact fin _ λ _=>rfl
def vM{t B e N:Nat}{s:ByteArray}{x:Operand}(G:P.underlying t=some .string)(w:P.underlying B=some (.slice e))(z:P.underlying e=some (.int .u8))(H:Zj f x=.string s)
  (h:∀b cap(c:Array Value)fr,U.free b->(∀(i:Nat)u,s.data[i]?=some u->c[i]?=some (.int .u8 u.toNat))->K (.slice (some ⟨b,0,none⟩) s.size cap) { U with I:=JI U.I b (.cells c e fr) }) :
  OX S (.raw { dst:=none,op:=.convert t B x,type:=N,pos := "", after:=#[],guard:=none }) f K U:=by
 intro a' E;simp only[execOp,E,H];refine rq ?_;unfold convert;simp only[Qd,Zg G,Zg w,Zg z,Conv.stringToBytes,choose];show ∀L,Qr P _ _ U;intro L;simp only[Qk,Qr];refine Jk λ b F=>?_;unfold markStringish;simp only[Qd,shape];refine⟨_,.inr (mem_cons_self ..),?_⟩;simp only[Obj.shapeOf,Qr,freeze];refine⟨D1,_,_,_,rfl,?_⟩;refine⟨_,We (b:=b) (M':=U.M) (Perm.refl _),?_⟩;refine h b _ _ _ F λ i u Q=>?_;grind
end Go.TM

