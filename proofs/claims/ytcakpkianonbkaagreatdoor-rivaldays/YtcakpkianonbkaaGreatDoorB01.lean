/- Lemmas. No conditions. -/
import Derived.Test.YtcakpkianonbkaaGreatDoorB00
set_option linter.all false
open List
namespace Go
abbrev Operand.t(n:Nat):Operand:=.tmp n
abbrev Operand.ci(n:Int):Operand:=.const (.int .i64 n)
abbrev Operand.cb(b:Bool):Operand:=.const (.bool b)
abbrev Operand.cn:Operand:=.const (.slice none 0 0)
end Go
namespace Go.TM
variable{T:Type}{P:Program}{S:Sys P T}
def J8(o:Oper):Oper:={ dst:=none,op:=o.op,type:=o.type,pos := "", after:=#[],guard:=none }
def eJ:BinOp->Bool
 |.eql|.neq|.lss|.leq|.gtr|.geq=>true
 |_=>false
def EZ(P:Program)(o:Oper)(op:BinOp)(t:TypeId)(x y:Operand):O:=
 match P.underlying t with
 |some (.int k)=>
  if eJ op then .cmp op x y
  else match k,op with
   |.i64,.add=>.add x y
   |.i64,.sub=>.sub x y
   |.i64,.mul=>.mul x y
   |_,_=>.ar op x y
 |some .bool=>.beq op x y
 |some .string=>(match op with|.eql=>.teq op x y|.neq=>.teq op x y|_=>.raw (J8 o))
 |_=>.raw (J8 o)
def Jw(P:Program)(t:TypeId):Option Nat:=(P.info? t).map (·.size)
def Xq(P:Program)(t:TypeId):Option Value:=(P.info? t).bind (·.zero)
def Zb(P:Program)(mu:List Nat)(o:Oper):O:=
 match o.op with
 |.move x|.assign x=>.mv x
 |.pick c a b=>.pick c a b
 |.binOp op t x y _=>EZ P o op t x y
 |.unOp .not _ x=>.not x
 |.call { callee:=.value c,args,.. }=>.call c args
 |.call { callee:=.builtin .len,args,argTypes }=>
  (match args,argTypes with
  |⟨[x]⟩,⟨[t]⟩=>(match P.underlying t with|some (.slice _)=>.len x|some .string=>.lenT x|some (.map _ _)=>.lenM x|_=>.raw (J8 o))
  |_,_=>.raw (J8 o))
 |.convert src dst x=>(match P.underlying src,P.underlying dst with|some (.int _),some (.int k)=>.conv k x|_,_=>.raw (J8 o))
 |.fieldAddr s x i=>(match P.underlying s with
  |some (.struct h)=>(match h[i]? with
   |some fd=>(match Jw P fd.type with|some (_+1)=>.off fd.offset x|_=>.raw (J8 o))
   |none=>.raw (J8 o))
  |_=>.raw (J8 o))
 |.indexAddr t x i=>(match P.underlying t with
  |some (.slice e)=>(match Jw P e with|some n=>.idx n x i|none=>.raw (J8 o))
  |some (.array len e)=>(match Jw P e with|some n=>if len<=1 then .raw (J8 o)else .aidx len n x i|none=>.raw (J8 o))
  |_=>.raw (J8 o))
 |.index t x i=>(match P.underlying t with|some .string=>.sidx x i|_=>.raw (J8 o))
 |.load t x=>(match P.underlying t with
  |some d=>if TypeDesc.agg d then(match Jw P t with|some n=>.ldn n x|none=>.raw (J8 o))else .ld x
  |none=>.raw (J8 o))
 |.store t x v=>(match Jw P t with|some n=>.st n x v|none=>.raw (J8 o))
 |.box t x=>(match o.dst with|some d=>if mu.contains d then .boxM t x else .box t x|none=>.boxM t x)
 |.alloc t=>(match Xq P t with|some z=>.alloc t z.cells|none=>.raw (J8 o))
 |.extract x i=>.ext x i
 |.field t x i=>(match P.underlying t with
  |some (.struct h)=>(match h[i]? with
   |some fd=>(match P.underlying fd.type with
    |some d=>if TypeDesc.agg d then(match Jw P fd.type with|some n=>.part fd.offset n x|none=>.raw (J8 o))else .part1 fd.offset x
    |none=>.raw (J8 o))
   |none=>.raw (J8 o))
  |_=>.raw (J8 o))
 |.makeFunc fn first w=>.mkf fn first w
 |.nilCheck x=>.nilc x
 |.build t parts=>(match P.underlying t,Xq P t with
  |some (.struct h),some z=>if h.toList.all (λ fd=>(Jw P fd.type).isSome)then
    (match parts.toList.mapM (λ p=>(h[p.1]?).map λ fd=>(fd.offset,(Jw P fd.type).getD 0,p.2))with
    |some ps=>.build z.cells ps
    |none=>.raw (J8 o))else .raw (J8 o)
  |_,_=>.raw (J8 o))
 |.buildSlice t len parts=>(match P.underlying t with
  |some (.slice e)=>(match Jw P e,Xq P e with
   |some n,some z=>if len*n<=2^24 then .bsl e len (if len*n=0 then #[]else(Array.range (len*n)).map (z.cells[· % z.cells.size]!)) (parts.toList.map λ p=>(p.1*n,n,p.2))else .raw (J8 o)
   |_,_=>.raw (J8 o))
  |_=>.raw (J8 o))
 |.slice t x lo B none=>(match P.underlying t with|some (.slice e)=>(match Jw P e with|some n=>.sub3 n x lo B|none=>.raw (J8 o))|_=>.raw (J8 o))
 |_=>.raw (J8 o)
def Gv{t:TypeId}{n:Nat}(h:Jw P t=some n):∃i,P.info? t=some i/\i.size=n:=by
 simpa[Jw]using h
def PI{t:TypeId}{z:Value}(h:Xq P t=some z):∃i,P.info? t=some i/\i.zero=some z:=by
 simpa[Xq,Option.bind_eq_some_iff]using h
section
variable{f:Fm}{K:Value->Qa T->Prop}{U:Qa T}
def PT{op:BinOp}{t:TypeId}{x y:Operand}{k k':IntKind}{a b:Int}{Q:Unit->Qa T->Prop}(h:Q () U):Qr P (eqGuard op t x y (.int k a) (.int k' b)) Q U:=by
 cases op <;> exact h
def gW{op:BinOp}{t:TypeId}{x y:Operand}{a b:Bool}{Q:Unit->Qa T->Prop}(h:Q () U):Qr P (eqGuard op t x y (.bool a) (.bool b)) Q U:=by
 cases op <;> exact h
def ke{op:BinOp}{t:TypeId}{x y:Operand}{a b:ByteArray}{Q:Unit->Qa T->Prop}(h:Q () U):Qr P (eqGuard op t x y (.string a) (.string b)) Q U:=by
 cases op <;> exact h
def eo{op:BinOp}{t:TypeId}{x y:Operand}(h:OX S (.cmp op x y) f K U):Qr P (do eqGuard op t x y (Zo f x) (Zo f y);binOp op t (Zo f x) (Zo f y)) K U:=by
 simp only[OX]at h;cases b:Zo f x <;> simp only[b]at h <;> try exact h.elim
 cases e:Zo f y <;> simp only[e]at h <;> try exact h.elim
 obtain⟨rfl,h⟩:=h;rw[Qf];refine PT ?_;cases op <;> first|exact h.elim|simpa[binOp,Op.intCmp,Qk]using h
def eg{t:TypeId}{x y:Operand}(h:OX S (.add x y) f K U):Qr P (do eqGuard .add t x y (Zo f x) (Zo f y);binOp .add t (Zo f x) (Zo f y)) K U:=by
 simp only[OX]at h;split at h
 .rename_i a b e1 e2;rw[e1,e2,Qf];refine PT ?_;simpa[binOp,Op.intArith,Qk,G7 h.1]using h.2
 .exact h.elim
def eu{t:TypeId}{x y:Operand}(h:OX S (.sub x y) f K U):Qr P (do eqGuard .sub t x y (Zo f x) (Zo f y);binOp .sub t (Zo f x) (Zo f y)) K U:=by
 simp only[OX]at h;split at h
 .rename_i a b e1 e2;rw[e1,e2,Qf];refine PT ?_;simpa[binOp,Op.intArith,Qk,G7 h.1]using h.2
 .exact h.elim
def et{t:TypeId}{x y:Operand}(h:OX S (.mul x y) f K U):Qr P (do eqGuard .mul t x y (Zo f x) (Zo f y);binOp .mul t (Zo f x) (Zo f y)) K U:=by
 simp only[OX]at h;split at h
 .rename_i a b e1 e2;rw[e1,e2,Qf];refine PT ?_;simpa[binOp,Op.intArith,Qk,G7 h.1]using h.2
 .exact h.elim
def yr{t:TypeId}(h:P.underlying t=some .bool)(a b:Bool)(Q:Bool->Qa T->Prop)(U:Qa T):Qr P (Op.equal t (.bool a) (.bool b)) Q U=Q (a==b) U:=by
 have e:Op.equal t (.bool a) (.bool b)=Op.equalIn (9999+1) t (.bool a) (.bool b):=rfl;rw[e,Op.equalIn,Qf,Zk h];rfl
def eh{op:BinOp}{t:TypeId}{x y:Operand}(e:P.underlying t=some .bool)(h:OX S (.beq op x y) f K U):Qr P (do eqGuard op t x y (Zo f x) (Zo f y);binOp op t (Zo f x) (Zo f y)) K U:=by
 simp only[OX]at h;split at h
 .rename_i a b e1 e2;rw[e1,e2,Qf];refine gW ?_;cases op <;> first|exact h.elim|(simp only[binOp,Qf,yr e,Qk];exact h)
 .exact h.elim
def NC{op:BinOp}{t:TypeId}{x y:Operand}(h:OX S (.teq op x y) f K U):Qr P (do eqGuard op t x y (Zo f x) (Zo f y);binOp op t (Zo f x) (Zo f y)) K U:=by
 simp only[OX]at h;split at h
 .rename_i a b e1 e2;rw[e1,e2,Qf];refine ke ?_;cases op <;> first|exact h.elim|simpa[binOp,Op.stringOp,Qk]using h
 .exact h.elim
def eC{op:BinOp}{t:TypeId}{x y:Operand}(h:OX S (.ar op x y) f K U):Qr P (do eqGuard op t x y (Zo f x) (Zo f y);binOp op t (Zo f x) (Zo f y)) K U:=by
 simp only[OX]at h;split at h
 .rename_i k a k' b e1 e2;rw[e1,e2,Qf];refine PT ?_
  cases op <;> simp only[]at h <;> first
   |exact h.elim
   |(obtain⟨rfl,e,h⟩:=h;simpa[binOp,Op.intDiv,e,Qk]using h)
   |(obtain⟨rfl,h⟩:=h;simpa[binOp,Op.intArith,Op.intBits,Qk]using h)
   |(obtain⟨e,h⟩:=h;simpa[binOp,Op.shift,Int.not_lt.2 e,Qk]using h)
 .exact h.elim
def QY{s:Sem Value}(h:Qr P s K U):Qr P (s >>= λ v=>pure (Next.value v)) (ZI S K) U:=by rw[Qf];exact h
def dq{c:Operand}{args:Array Operand}{z:Array TypeId}{N:TypeId}{ρ:Operand->Value}(E:∀x,ρ x=Zo f x)(h:OX S (.call c args) f K U) :
  Qr P (do let d <- resolve ρ { callee:=.value c,args:=args,argTypes:=z } N;invoke d.target d.args:Sem Next) (ZI S K) U:=by
 simp only[OX]at h;have G:args.map ρ=args.map (Zo f):=by rw[show ρ=Zo f from funext E]
 split at h
 .rename_i g first capt e
  obtain⟨B,h⟩:=h;simp only[Qf,resolve,E,G,e,Deferred.ofValue,Qk,invoke,callFunc,program,Qr];cases F:P.funcs[g]? with
  |none=>simp[F]at B
  |some fd=>
   simp only[F,Option.any_some,Bool.and_eq_true,bne_iff_ne,ne_eq]at B;obtain⟨Q,H⟩:=B;have w:fd.body.isNone=false:=by cases I:fd.body <;> simp_all
   have b:(fd.name== "runtime.NumGoroutine")=false:=by simpa using H
   simp only[b,w,Bool.false_eq_true,if_false,Qk,ZI];rw[Wb]at h;have e:(first++Array.map (Zo f) args)++capt=(first.toList++args.toList.map (Zo f)++capt.toList).toArray:=by apply Array.ext';simp
   rw[e];exact h.sep λ v U' M L=>⟨U',.refl _,L M⟩
 .rename_i l first capt e
  rw[Wb]at h;simp only[Qf,resolve,E,G,e,Deferred.ofValue,Qk,invoke];have e:first++Array.map (Zo f) args=(first.toList++args.toList.map (Zo f)).toArray:=by apply Array.ext';simp
  rw[e];exact h
 .exact h.elim
def Gc{k:IntKind}{i:Int}{y n:Nat}{code:BoundsCode}(b:i=n)(h:n<=y){Q:Nat->Qa T->Prop}(e:Q n U):Qr P (Instr.sliceBound (.int k i) y code) Q U:=by
 subst b;unfold Instr.sliceBound;rw[Qf];show Qr P (if 0<=(n:Int)/\(n:Int)<=y then pure (n:Int).toNat else boundsPanic k n y code) Q U;rw[if_pos O1];exact e
def eV{len cap:Nat}{Q:Nat×Nat×Nat->Qa T->Prop}(b:Q (0,len,cap) U):Qr P (Instr.sliceBounds true len cap none none none) Q U:=by
 unfold Instr.sliceBounds;simp only[Qf,Qk];exact b
def eW{len cap l:Nat}{k:IntKind}{i:Int}(b:i=l)(h:l<=len){Q:Nat×Nat×Nat->Qa T->Prop}(e:Q (l,len,cap) U):Qr P (Instr.sliceBounds true len cap (some (.int k i)) none none) Q U:=by
 unfold Instr.sliceBounds;simp only[Qf,Qk];exact Gc b h e
def eX{len cap h:Nat}{k:IntKind}{i:Int}(e:i=h)(b:h<=cap){Q:Nat×Nat×Nat->Qa T->Prop}(w:Q (0,h,cap) U):Qr P (Instr.sliceBounds true len cap none (some (.int k i)) none) Q U:=by
 unfold Instr.sliceBounds;simp only[Qf,Qk];exact Gc e b w
def eY{len cap l h:Nat}{k k':IntKind}{i e:Int}(B:i=l)(b:e=h)(w:l<=h)(z:h<=cap){Q:Nat×Nat×Nat->Qa T->Prop}(E:Q (l,h,cap) U):Qr P (Instr.sliceBounds true len cap (some (.int k i)) (some (.int k' e)) none) Q U:=by
 unfold Instr.sliceBounds;simp only[Qf,Qk];exact Gc b z (Gc B w E)
def RT{len cap l w:Nat}{lo H:Option Value}(b:S6 len lo H=some ((l:Int),(w:Int)))(F:l<=w)(G:w<=cap){Q:Nat×Nat×Nat->Qa T->Prop}(z:Q (l,w,cap) U) :
  Qr P (Instr.sliceBounds true len cap lo H none) Q U:=by
 unfold S6 at b;split at b
 .simp only[Option.some.injEq,Prod.mk.injEq]at b;obtain⟨B,E⟩:=b;have e:l=0:=O1
  have h:w=len:=O1
  subst e;subst h;exact eV z
 .simp only[Option.some.injEq,Prod.mk.injEq]at b;obtain⟨B,E⟩:=b;have h:w=len:=O1
  subst h;exact eW B F z
 .simp only[Option.some.injEq,Prod.mk.injEq]at b;obtain⟨B,E⟩:=b;have e:l=0:=O1
  subst e;exact eX E G z
 .simp only[Option.some.injEq,Prod.mk.injEq]at b;exact eY b.1 b.2 F G z
 .cases b
def du{t e:TypeId}{n:Nat}{x:Operand}{lo z:Option Operand}(G:P.underlying t=some (.slice e))(F:Jw P e=some n)(h:OX S (.sub3 n x lo z) f K U) :
  Qr P (Instr.sliceAt t (Zo f x) (lo.map (Zo f)) (z.map (Zo f)) none) K U:=by
 obtain⟨H,b,w⟩:∃i,P.info? e=some i/\i.size=n:=by simpa[Jw]using F
 simp only[OX]at h;split at h
 .rename_i sa len cap e1;split at h
  .rename_i li hh hsb;obtain⟨l,I,⟨rfl,rfl,B,E⟩,h⟩:=h;simp only[e1,Instr.sliceAt,Instr.slice,Qf,Zk G];refine RT hsb B E ?_;simp only[Jj b,w,Qk];exact h
  .exact h.elim
 .exact h.elim
def er{t e:TypeId}{n:Nat}{x i:Operand}(E:P.underlying t=some (.slice e))(B:Jw P e=some n)(h:OX S (.idx n x i) f K U):Qr P (Instr.indexAt t (Zo f x) (Zo f i)) K U:=by
 obtain⟨F,w,z⟩:∃i,P.info? e=some i/\i.size=n:=by simpa[Jw]using B
 simp only[OX]at h;split at h
 .rename_i aa len cap k m e1 e2;obtain⟨G,j,⟨rfl,rfl,H⟩,h⟩:=h;have b:(0:Int)<=(j:Int)/\(j:Int)<(len:Int):=O1
  simp only[e1,e2,Instr.indexAt,asIntOf,Qf,Qk,Zk E];rw[if_pos b];simp only[Qf,Jj w,z,Qk,Int.toNat_natCast];exact h
 .exact h.elim
def dp{t e:TypeId}{len n:Nat}{x i:Operand}(E:P.underlying t=some (.array len e))(B:Jw P e=some n)(h:OX S (.aidx len n x i) f K U):Qr P (Instr.indexAt t (Zo f x) (Zo f i)) K U:=by
 obtain⟨F,w,z⟩:∃i,P.info? e=some i/\i.size=n:=by simpa[Jw]using B
 simp only[OX]at h;split at h
 .rename_i ad k m e1 e2;obtain⟨j,⟨rfl,G⟩,h⟩:=h;have b:(0:Int)<=(j:Int)/\(j:Int)<(len:Int):=O1
  simp only[e1,e2,Instr.indexAt,asIntOf,Qf,Qk,Zk E,Instr.sureAddr];rw[if_pos b];simp only[Qf,Jj w,z,Qk,Int.toNat_natCast];exact h
 .exact h.elim
def dr{t:TypeId}{x i:Operand}(w:P.underlying t=some .string)(h:OX S (.sidx x i) f K U):Qr P (Instr.index t (Zo f x) (Zo f i)) K U:=by
 simp only[OX]at h;split at h
 .rename_i s k n e1 e2;obtain⟨j,b,⟨rfl,e⟩,h⟩:=h;simp only[e1,e2,Instr.index,asIntOf,Qf,Qk,Zk w];rw[if_pos O1,Int.toNat_natCast,e];exact h
 .exact h.elim
def Mg{α β:Type}(g:α->Sem β)(v:α->β):∀(l:List α)(acc:Array β)(Q:Array β->Qa T->Prop)(U:Qa T),(∀a∈l,∀(Q:β->Qa T->Prop)U,Qr P (g a) Q U=Q (v a) U)->Q (acc++(l.map v).toArray) U->Qr P (X9 g l acc) Q U
 |[],acc,Q,U,_,h=>by simpa[X9,Qk]using h
 |x::l,acc,Q,U,b,h=>by
  simp only[X9,Qf,b x (mem_cons_self ..)];refine Mg g v l _ Q U (λ a w=>b a (mem_cons_of_mem _ w)) ?_;have e:acc.push (v x)++(l.map v).toArray=acc++((x::l).map v).toArray:=by apply Array.ext';simp
  rw[e];exact h
def yu{e:Array Field}(b:e.toList.all (λ fd=>(Jw P fd.type).isSome)=true){Q:Array (Nat×Nat)->Qa T->Prop}(h:Q (e.map λ fd=>(fd.offset,(Jw P fd.type).getD 0)) U) :
  Qr P (e.mapM λ fd=>do pure (fd.offset,<- sizeOf fd.type)) Q U:=by
 obtain⟨l⟩:=e;rw[Oz];refine Mg _ (λ fd=>(fd.offset,(Jw P fd.type).getD 0)) l #[] Q U (λ fd w Q U=>?_) (by simpa using h);have:=all_eq_true.1 b fd w;obtain⟨n,B⟩:=Option.isSome_iff_exists.1 this;obtain⟨F,E,z⟩:∃i,P.info? fd.type=some i/\i.size=n:=by simpa[Jw]using B
 simp only[Qf,Jj E,Qk,B,z,Option.getD_some]
def F8:∀(vs:List Value)(cells:Array Value)(off j:Nat),(vs.zipIdx j).foldl (λ cs(p:Value×Nat)=>cs.setIfInBounds (off+p.2) p.1) cells=JW cells off vs j
 |[],_,_,_=>rfl
 |v::r,cells,off,j=>by simp only[zipIdx_cons,foldl_cons,JW];exact F8 r _ off (j+1)
def OM(place:Nat->Option (Nat×Nat))(f:Fm):∀(parts:List (Nat×Operand))(ps:List (Nat×Nat×Operand))(cells:Array Value),
  parts.mapM (λ p=>(place p.1).map λ q=>(q.1,q.2,p.2))=some ps->Instr.fill place cells (parts.map λ p=>(p.1,Zo f p.2))=Pu f cells ps
 |[],ps,cells,h=>by simp at h;subst h;rfl
 |(i,x)::r,ps,cells,h=>by
  simp only[mapM_cons,Option.pure_def,Option.bind_eq_bind,Option.bind_eq_some_iff,Option.map_eq_some_iff]at h;obtain⟨_,⟨⟨off,size⟩,z,rfl⟩,w,b,e⟩:=h;cases e;simp only[map_cons,Instr.fill,z,Pu];split
  .rfl
  .rw[<- OM place f r w _ b];congr 1;rw[<- F8,<- Array.foldl_toList,Array.toList_zipIdx]
def Z6.cells{a:Addr}{vs:List Value}(h:Z6 U a vs){Q:Array Value->Qa T->Prop}(e:Q vs.toArray U):Qr P (loadCells a vs.length) Q U:=
 I9 vs 0 #[] (λ j v b=>by simpa using h j v b) (by simpa using e)
end
def RG(cs:Array Value)(off n:Nat):cs.extract off (off+n)=((cs.toList.drop off).take n).toArray:=by
 apply Array.ext';simp[Array.toList_extract,extract_eq_take_drop]
def Xj{o:Oper}{mu:List Nat}{a:Act}{f:Fm}(w:∀x,a.eval x=Zo f x){K:Value->Qa T->Prop}{U:Qa T}
  (L:∀v U U',Qx U U'->K v U'->K v U) (h:OX S (Zb P mu o) f K U):QL S o a K U:=by
 obtain⟨dst,op,ty,pos,after,guard⟩:=o
 have raw:∀o:Oper,OX S (.raw (J8 o)) f K U->Qr P (execOp a.eval o) (ZI S K) U:=λ o h=>Qr.mono _ (h a w) λ n U Y=>by
  have Z:∀v(U:Qa T),(∃I,Qx U I/\K v I)->K v U:=λ v U⟨I,B,Z⟩=>L v U I B Z;cases n <;> first|exact Z _ _ Y|exact Qb.mono Y Z|exact WE.mono Y Z|exact Y
 unfold QL;cases op with
 |move x=>simp only[Zb,OX,Q0]at h;simp only[execOp,w,Qk,ZI];exact h
 |assign x=>simp only[Zb,OX,Q0]at h;simp only[execOp,w,Qk,ZI];exact h
 |pick c x y=>
  simp only[Zb,OX]at h;simp only[execOp,w];split at h
  .rename_i e;rw[Q0]at h;simp only[e,Qf,asBool,Qk,ZI,if_true];exact h
  .rename_i e;rw[Q0]at h;simp only[e,Qf,asBool,Qk,ZI,Bool.false_eq_true,if_false];exact h
  .exact h.elim
 |binOp ak t x y yt=>
  simp only[Zb,EZ]at h;simp only[execOp,w];split at h
  .split at h
   .exact QY (eo h)
   .split at h
    .exact QY (eg h)
    .exact QY (eu h)
    .exact QY (et h)
    .exact QY (eC h)
  .rename_i e;exact QY (eh e h)
  .split at h
   .exact QY (NC h)
   .exact QY (NC h)
   .have:=raw _ h;simpa only[execOp,w]using this
  .have:=raw _ h;simpa only[execOp,w]using this
 |unOp ag t x=>
  cases ag with
  |not=>
   simp only[Zb,OX]at h;simp only[execOp,w];split at h
   .rename_i e;simp only[e];exact QY h
   .exact h.elim
  |_=>exact raw _ h
 |call c=>
  obtain⟨callee,args,aj⟩:=c;cases callee with
  |value g=>exact dq w h
  |invoke r al=>exact raw _ h
  |builtin b=>
   cases b with
   |len=>
    simp only[Zb]at h;split at h
    .rename_i x t;split at h
     .rename_i e hu;simp only[OX]at h;split at h
      .rename_i Q;simp only[execOp,Qf,resolve,Qk,invoke,builtin,Builtin.len_];simp only[map_toArray,map_cons,map_nil,w,Q,getElem?_toArray,getElem?_cons_zero,Qf,Zk hu,Qk,ZI,goInt];exact h
      .exact h.elim
     .rename_i hu;simp only[OX]at h;split at h
      .rename_i Q;simp only[execOp,Qf,resolve,Qk,invoke,builtin,Builtin.len_];simp only[map_toArray,map_cons,map_nil,w,Q,getElem?_toArray,getElem?_cons_zero,Qf,Zk hu,Qk,ZI,goInt];exact h
      .exact h.elim
     .rename_i kk ee hu;simp only[OX]at h;split at h
      .rename_i Q;simp only[execOp,Qf,resolve,Qk,invoke,builtin,Builtin.len_];simp only[map_toArray,map_cons,map_nil,w,Q,getElem?_toArray,getElem?_cons_zero,Qf,Zk hu,Qk,ZI,goInt];exact h
      .rename_i r Q;obtain⟨es,aa,hh,h⟩:=h;simp only[execOp,Qf,resolve,Qk,invoke,builtin,Builtin.len_];simp only[map_toArray,map_cons,map_nil,w,Q,getElem?_toArray,getElem?_cons_zero,Qf,Zk hu,getObj];exact⟨_,hh,rfl,rfl,h⟩
      .exact h.elim
     .exact raw _ h
    .exact raw _ h
   |_=>exact raw _ h
 |convert src dt x=>
  simp only[Zb]at h;split at h
  .rename_i k1 k hu hu';simp only[OX]at h;split at h
   .rename_i k2 n e;simp only[execOp,w,e];refine QY ?_;simp only[convert,Qf,Zk hu,Zk hu',Conv.intToInt,Qk];exact h
   .exact h.elim
  .exact raw _ h
 |fieldAddr s x i=>
  simp only[Zb]at h;split at h
  .rename_i fs hu;split at h
   .rename_i fd hfd;split at h
    .rename_i n B;obtain⟨H,G,E⟩:=Gv B;simp only[OX]at h;split at h
     .rename_i ad e;simp only[execOp,w,e];refine QY ?_;simp only[Instr.fieldAt,Qf,Zk hu,hfd,Instr.sureAddr,Qk,fieldPlace,Jj G,E];simpa[Qk]using h
     .exact h.elim
    .exact raw _ h
   .exact raw _ h
  .exact raw _ h
 |indexAddr t x i=>
  simp only[Zb]at h;split at h
  .rename_i e hu;split at h
   .rename_i n B;simp only[execOp,w];exact QY (er hu B h)
   .exact raw _ h
  .rename_i len e hu;split at h
   .rename_i n B;split at h
    .exact raw _ h
    .simp only[execOp,w];exact QY (dp hu B h)
   .exact raw _ h
  .exact raw _ h
 |index t x i=>
  simp only[Zb]at h;split at h
  .rename_i hu;simp only[execOp,w];exact QY (dr hu h)
  .exact raw _ h
 |load t x=>
  simp only[Zb]at h;split at h
  .rename_i d hu;split at h
   .rename_i hag;split at h
    .rename_i n B;obtain⟨H,G,E⟩:=Gv B;simp only[OX]at h;split at h
     .rename_i ad e;obtain⟨vs,⟨hl,hr⟩,h⟩:=h;simp only[execOp,w,e];refine QY ?_;simp only[Instr.loadAt,Instr.sureAddr,Qf,Qk,loadVar,HV hu,hag,if_true,Jj G,E,<- hl];exact hr.cells h
     .exact h.elim
    .exact raw _ h
   .rename_i hag;simp only[OX]at h;split at h
    .rename_i ad e;obtain⟨v,B,h⟩:=h;rw[Q0]at h;simp only[execOp,w,e];refine QY ?_;simp only[Instr.loadAt,Instr.sureAddr,Qf,Qk,loadVar,HV hu,hag,Bool.false_eq_true,if_false];exact OR B h
    .exact h.elim
  .exact raw _ h
 |store t x v=>
  simp only[Zb]at h;split at h
  .rename_i n B;obtain⟨H,G,E⟩:=Gv B;simp only[OX]at h;split at h
   .rename_i ad e;obtain⟨Y,h⟩:=h;simp only[execOp,w,e];rw[Qf];simp only[Instr.storeAt,Instr.sureAddr,Qf,Qk,storeVar,Jj G,E,Y,ne_eq,not_true_eq_false,if_false];exact Py _ 0 U (ZB.mono (λ U'⟨I,h1,h2⟩=>L _ _ _ h1 h2) _ _ _ h)
   .exact h.elim
  .exact raw _ h
 |box t x=>
  have key:(∀b,U.free b->K (.pointer (some ⟨b,0,none⟩)) (U.put b (.cells (Zo f x).cells t)))->Qr P (execOp a.eval ⟨dst,.box t x,ty,pos,after,guard⟩) (ZI S K) U:=by
   intro h;simp only[execOp,w];refine QY ?_;simp only[Instr.box,newVar,Qf];refine Jl λ b X=>?_;simp only[Qk];exact h b X
  simp only[Zb]at h;split at h
  .split at h
   .exact key h
   .exact key λ b X=>L _ _ _ (Wi (U:=U.put b (.cells (Zo f x).cells t)) (b:=b) (o:=.cells (Zo f x).cells t) (M':=U.M) (Perm.refl _)) ((by simpa only[OX,S0]using h:∀b I,U.le I->Zf I b (Zo f x).cells->K (.pointer (some ⟨b,0,none⟩)) I) b _ (P1 X) Zf.new)
  .exact key h
 |alloc t=>
  simp only[Zb]at h;split at h
  .rename_i z hz;obtain⟨H,G,N⟩:=PI hz;simp only[execOp];refine QY ?_;simp only[Instr.alloc,newVar,Qf,XM G N];refine Jl λ b X=>?_;simp only[Qk];obtain⟨I,B,h⟩:=h b X;exact L _ _ _ B h
  .exact raw _ h
 |extract x i=>
  simp only[Zb,OX]at h;simp only[execOp,w];refine QY ?_;split at h
  .rename_i vs e;split at h
   .rename_i v hv;rw[Q0]at h;simp only[e,Instr.extract,hv,Qk];exact h
   .exact h.elim
  .exact h.elim
 |field t x i=>
  simp only[Zb]at h;split at h
  .rename_i fs hu;split at h
   .rename_i fd hfd;split at h
    .rename_i d hd;split at h
     .rename_i hag;split at h
      .rename_i n B;obtain⟨H,G,E⟩:=Gv B;simp only[OX]at h;split at h
       .rename_i cs e;simp only[execOp,w,e];refine QY ?_;simp only[Instr.field,Qf,Zk hu,hfd,asAgg,Qk,part,HV hd,hag,if_true,Jj G,E];rw[RG];exact h
       .exact h.elim
      .exact raw _ h
     .rename_i hag;simp only[OX]at h;split at h
      .rename_i cs e;split at h
       .rename_i v hv;rw[Q0]at h;simp only[execOp,w,e];refine QY ?_;simp only[Instr.field,Qf,Zk hu,hfd,asAgg,Qk,part,HV hd,hag,Bool.false_eq_true,if_false,hv];exact h
       .exact h.elim
      .exact h.elim
    .exact raw _ h
   .exact raw _ h
  .exact raw _ h
 |makeFunc fn first ah=>
  simp only[Zb,OX,Wb]at h;have e:a.eval=Zo f:=funext w;simp only[execOp,e];have e1:∀l:Array Operand,l.map (Zo f)=(l.toList.map (Zo f)).toArray:=λ l=>by apply Array.ext';simp
  rw[e1,e1];exact QY h
 |nilCheck x=>
  simp only[Zb,OX]at h;simp only[execOp,w];split at h
  .rename_i ad e;simp only[e];exact QY (s:=pure (.pointer (some ad))) h
  .exact h.elim
 |build t parts=>
  simp only[Zb]at h;split at h
  .rename_i fs z hu hz;split at h
   .rename_i hall;split at h
    .rename_i ps hps;obtain⟨H,G,N⟩:=PI hz;simp only[OX,G8,Array.toArray_toList]at h;split at h
     .rename_i cells hc;simp only[execOp,w];refine QY ?_;simp only[Instr.build,Qf,XM G N,Zk hu];refine yu hall ?_
      have ab:Instr.fill ((fs.map λ fd=>(fd.offset,(Jw P fd.type).getD 0))[·]?) z.cells ((parts.map λ p=>(p.1,Zo f p.2)).toList)=some cells:=by
       rw[<- hc,Array.toList_map];refine OM _ f parts.toList ps z.cells ?_;rw[<- hps];congr 1;funext p;simp only[Array.getElem?_map];cases fs[p.1]? <;> rfl
      simp only[ab,Qk];exact h
     .exact h.elim
    .exact raw _ h
   .exact raw _ h
  .exact raw _ h
 |buildSlice t len parts=>
  simp only[Zb]at h;split at h
  .rename_i e hu;split at h
   .rename_i n z B hz;split at h
    .rename_i hle;obtain⟨H,G,N⟩:=PI hz;obtain⟨ai,ae,E⟩:=Gv B;simp only[OX,G8,Array.toArray_toList]at h;split at h
     .rename_i cells hc
      have ac:Instr.fill (λ i=>some (i*n,n)) (if len*n=0 then #[]else(Array.range (len*n)).map (z.cells[· % z.cells.size]!)) ((parts.map λ p=>(p.1,Zo f p.2)).toList)=some cells:=by
       rw[<- hc,Array.toList_map];refine OM _ f parts.toList _ _ ?_;generalize parts.toList=l
       induction l with
       |nil=>rfl
       |cons p l ih=>rw[mapM_cons,ih];rfl
      simp only[execOp,w];refine QY ?_;simp only[Instr.buildSlice,Qf,Zk hu,Jj ae,E];rw[if_neg O1]
      have last:∀(V:String)(F:Array Value),F=(if len*n=0 then #[]else(Array.range (len*n)).map (z.cells[· % z.cells.size]!)) ->
        Qr P (do
         let some cells:=Instr.fill (λ i=>some (i*n,n)) ((Array.range (len*n)).map (λ k=>(if len*n=0 then #[]else z.cells)[k % (if len*n=0 then #[]else z.cells).size]!)) ((parts.map λ p=>(p.1,Zo f p.2)).toList)|stuck V
         pure (.slice (some (<- newRow e cells)) len len):Sem Value) K U:=by
       intro V F _
       have Q:(Array.range (len*n)).map (λ k=>(if len*n=0 then #[]else z.cells)[k % (if len*n=0 then #[]else z.cells).size]!)=(if len*n=0 then #[]else(Array.range (len*n)).map (z.cells[· % z.cells.size]!)):=by
        split
        .rename_i W;simp[W]
        .rfl
       rw[Q,ac];simp only[Qf];refine Jl λ b X=>?_;simp only[Qk];obtain⟨I,af,h⟩:=h b X;exact L _ _ _ af h
      have:=λ V=>last V _ rfl;by_cases W:len*n=0
      .rw[if_pos W];simp only[W,if_true]at this;simp only[W,Qk];exact this _
      .rw[if_neg W];simp only[W,if_false]at this;simp only[Qf,XM G N,Qk];exact this _
     .exact h.elim
    .exact raw _ h
   .exact raw _ h
  .exact raw _ h
 |slice t x lo G mx=>
  cases mx with
  |some _=>exact raw _ h
  |none=>
   simp only[Zb]at h;split at h
   .rename_i e hu;split at h
    .rename_i n B;simp only[execOp,show a.eval=Zo f from funext w];exact QY (du hu B h)
    .exact raw _ h
   .exact raw _ h
 |_=>exact raw _ h
structure St where
 o:O
 dst:Option Nat
 g:Option (Nat×Bool)
 dfr:Option (Operand×Array Operand):=none
abbrev St.d(n:Nat)(o:O):St:=⟨o,some n,none,none⟩
abbrev St.m(n k:Nat):St:=⟨.mv (.tmp k),some n,none,none⟩
abbrev St.u(n j:Nat)(b:Bool)(o:O):St:=⟨o,some n,some (j,b),none⟩
abbrev Zq(T:Type):=Fm->List Deferred->Qa T->Prop
def GB(b e:Bool)(A B:Prop):Prop:=
 match b,e with
 |true,true=>A
 |false,false=>A
 |true,false=>B
 |false,true=>B
def Q7{b e:Bool}{A B:Prop}(h:b=e->A)(w:b=!e->B):GB b e A B:=by
 cases b <;> cases e <;> first|exact h rfl|exact w rfl
def CB(b:Bool)(A B:Prop):Prop:=
 match b with
 |true=>A
 |false=>B
def Qd{b:Bool}{A B:Prop}(h:b=true->A)(e:b=false->B):CB b A B:=by cases b <;> first|exact h rfl|exact e rfl
def VH(S:Sys P T)(ro:Option Nat)(st:St)(w:Zq T->Zq T)(K:Zq T):Zq T:=λ f ds U=>
  match st.g with
  |some (j,e)=>(match f j with
   |.bool b=>GB b e (OX S st.o (JK f j (.bool e)) (λ v U'=>w K (ZE (JK f j (.bool e)) st.dst v) ds U') U)
     (w K (ZE (JK f j (.bool !e)) st.dst undef) ds U)
   |.tuple _=>w K (ZE f st.dst undef) ds U
   |_=>False)
  |none=>(match st.dfr with
   |some (c,args)=>(match Zo f c with
    |.func fn first h=>ro=none/\w K (ZE f st.dst undef) ({ target:=.fn fn h,args:=first++args.map (Zo f) }::ds) U
    |_=>False)
   |none=>OX S st.o f (λ v U'=>w K (ZE f st.dst v) ds U') U)
def JV(S:Sys P T)(ro:Option Nat)(l:List St):Zq T->Zq T:=List.rec (motive:=λ _=>Zq T->Zq T) (λ K=>K) (λ st _ b=>VH S ro st b) l
def Sd(S:Sys P T)(ro:Option Nat)(st:St)(r:List St)(K:Zq T):JV S ro (st::r) K=VH S ro st (JV S ro r) K:=rfl
def VP(S:Sys P T)(G:Qa T->Prop)(kd:Nat)(st:St)(B:(Qa T->Prop)->Zq T->Zq T)(C:Qa T->Prop)(K:Zq T):Zq T:=λ f ds U=>
  let run (f:Fm):Prop:=match kd with
   |0=>OX S st.o f (λ v _=>B C K (ZE f st.dst v) ds U) U
   |1=>∃v,(∀U',U.le U'->C U'->OX S st.o f (λ z w=>z=v/\∃e,Qx w e/\U'.le e) U')/\B C K (ZE f st.dst v) ds U
   |3=>∃v,(∀U',U.le U'->C U'->OX S st.o f (λ z w=>z=v/\∃e,Qx w e/\U'.le e) U')/\(∀U',G U'->OX S st.o f (λ z w=>z=v/\∃e,Qx w e/\U'.le e) U')/\B C K (ZE f st.dst v) ds U
   |_=>∃F:Value->Qa T->Prop,(∀v,XX (F v))/\(∀U',U.le U'->C U'->OX S st.o f (λ z w=>∃e,Qx w e/\F z e/\U'.le e) U') /\
     ∀v,(∃U',U.le U'/\C U'/\F v U')->B (λ U'=>C U'/\F v U') K (ZE f st.dst v) ds U
  match st.g with
  |some (j,h)=>(match f j with
   |.bool b=>GB b h (run (JK f j (.bool h))) (B C K (ZE (JK f j (.bool !h)) st.dst undef) ds U)
   |.tuple _=>B C K (ZE f st.dst undef) ds U
   |_=>False)
  |none=>run f
def DX(S:Sys P T)(G:Qa T->Prop)(l:List (Nat×St)):(Qa T->Prop)->Zq T->Zq T:=
 List.rec (motive:=λ _=>(Qa T->Prop)->Zq T->Zq T) (λ C K f ds U=>∀U',U.le U'->C U'->K f ds U') (λ p _ b=>VP S G p.1 p.2 b) l
def MU(S:Sys P T)(G:Qa T->Prop)(kd:Nat)(st:St)(r:List (Nat×St)):DX S G ((kd,st)::r)=VP S G kd st (DX S G r):=rfl
def NL(S:Sys P T)(G:Qa T->Prop)(st:St)(K:Zq T):Zq T:=λ f ds U=>
 OX S st.o f (λ h e=>h=undef/\∃b,Qx e b/\G b) U/\∀U',G U'->K (ZE f st.dst undef) ds U'
def ovr:List (Nat×Value)->Fm->Fm
 |[],f=>f
 |p::l,f=>JK (ovr l f) p.1 p.2
def XS(f:Fm)(l:List (Nat×Value)):Prop:=List.rec (motive:=λ _=>Prop) True (λ p _ b=>f p.1=p.2/\b) l
def YN{f:Fm}{d:Nat}{v:Value}(h:f d=v):JK f d v=f:=by
 funext t;simp only[JK];cases e:Nat.beq t d with
 |true=>rw[Nat.eq_of_beq_eq_true e];exact h.symm
 |false=>rfl
def XS.ovr{f:Fm}:∀{l:List (Nat×Value)},XS f l->ovr l f=f
 |[],_=>rfl
 |(d,v)::l,h=>by
  show JK (TM.ovr l f) d v=f;rw[XS.ovr h.2];exact YN h.1
structure FR(N:Nat)(a:Act)(f:Fm)(ds:List Deferred):Prop where
 ds:a.defers=ds
 size:a.tmps.size=N
 get:∀t,a.tmps.getD t undef=f t
def FR.eval{N:Nat}{a:Act}{f:Fm}{ds:List Deferred}(h:FR N a f ds)(x:Operand):a.eval x=Zo f x:=by
 cases x with
 |tmp t=>exact h.get t
 |_=>rfl
def FR.put{N:Nat}{a:Act}{f:Fm}{ds:List Deferred}(h:FR N a f ds)(dst:Option Nat)(v:Value)(z:∀d,dst=some d->d<N):FR N (a.put dst v) (ZE f dst v) ds:=by
 cases dst with
 |none=>exact h
 |some d=>
  have b:=z d rfl;refine⟨h.ds,by simpa[Act.put]using h.size,λ t=>?_⟩;simp only[Act.put,ZE,JK,Array.getD_eq_getD_getElem?,Array.getElem?_setIfInBounds];by_cases e:d=t
  .subst e;have:d<a.tmps.size:=by rw[h.size];exact b
   simp[this]
  .have e':Nat.beq t d=false:=by cases w:Nat.beq t d with|false=>rfl|true=>exact absurd (Nat.eq_of_beq_eq_true w).symm e
   have:=h.get t;simp only[Array.getD_eq_getD_getElem?]at this;simp[e,e',this]
def FR.slot{N:Nat}{a:Act}{f:Fm}{ds:List Deferred}(h:FR N a f ds){d:Nat}{b:Bool}(w:f d=.bool b):a.tmps[d]?=some (.bool b):=by
 have:=h.get d;rw[w,Array.getD_eq_getD_getElem?]at this;cases e:a.tmps[d]? with
 |none=>rw[e]at this;cases this
 |some v=>rw[e]at this;simpa using this
inductive C where
 |skip
 |seq (x y:C)
 |ite (c:Operand) (x y:C)
 |block (id:Nat) (b:C)
 |loop (b:C)
 |exit (id:Nat)
 |ret
 |scope (b:C)
 |reg (l:List St)
 |drw (qs:List (Nat×St)) (ts:List St)
 |drs (qs:List (Nat×St)) (st:St) (ts:List St)
 |rng (N:Nat) (mu dets:List Nat) (f:Operand) (params:Array Tmp) (assign body:C)
 |cd (N:Nat) (c:Code)
 |bad
def Jk(P:Program)(mu:List Nat)(ops:Array Oper)(o:Oper):Option St:=
 match o.op,o.guard with
 |.defer { callee:=.value c,args,.. },none=>some ⟨.mv c,o.dst,none,some (c,args)⟩
 |.defer _,_=>none
 |_,none=>some ⟨Zb P mu o,o.dst,none,none⟩
 |_,some (j,w)=>(match(ops[j]?).bind (·.dst)with
  |some d=>some ⟨Zb P mu o,o.dst,some (d,w),none⟩
  |none=>none)
def stable:O->Bool
 |.mv _|.pick ..|.add ..|.sub ..|.mul ..|.cmp ..|.beq ..|.ar ..|.teq ..|.not _|.len _|.lenT _|.conv ..|.off ..|.idx ..|.aidx ..|.sidx ..|.ld _|.ldn ..|.ext ..|.part ..|.part1 ..|.mkf ..|.nilc _|.sub3 ..|.build ..=>true
 |_=>false
def P0:O->Bool
 |.ld _|.ldn ..=>true
 |_=>false
def ez:O->Bool
 |.st ..=>true
 |_=>false
def Pj(N:Nat)(o:Oper):Bool:=match o.dst with|some d=>decide (d<N)|none=>true
def VD(ops:Array Oper)(b:Nat->Bool):Nat->List Nat->List Nat->List Nat
 |0,_,done=>done
 |n+1,left,done=>
  let ready:=left.filter λ i=>(W3 ops i).all done.contains
  match ready.find? (λ i=>!b i)with
  |some i=>VD ops b n (left.filter (· != i)) (done++[i])
  |none=>(match ready with
   |i::_=>VD ops b n (left.filter (· != i)) (done++[i])
   |[]=>done)
def Xn(ops:Array Oper):Nat->Nat
 |0=>0
 |k+1=>if(range k).all (λ j=>((Xa ops ops.size).getD k 0).testBit j)then Xn ops k else k+1
def Xt(P:Program)(mu dets:List Nat)(ops:Array Oper)(i:Nat):Bool:=
 match ops[i]? with
 |some o=>!stable (Zb P mu o)&&!((o.dst.map dets.contains).getD false)
 |none=>false
def VT(P:Program)(mu:List Nat)(ops:Array Oper)(rl:List Nat)(i:Nat):Nat:=
 if rl.contains i then 2 else match ops[i]? with
  |some o=>if stable (Zb P mu o)then 0 else 1
  |none=>1
def Om(ops:Array Oper)(x j:Nat):Bool:=!((Xa ops ops.size).getD x 0).testBit j
def Pv(P:Program)(mu:List Nat)(ops:Array Oper)(rl:List Nat)(x i:Nat):Nat:=
 if rl.contains i then 2 else match ops[i]? with
  |some o=>if stable (Zb P mu o)&&(!P0 (Zb P mu o)|| !Om ops x i)then 0 else if Om ops x i then 3 else 1
  |none=>3
def T9(P:Program)(mu:List Nat)(N:Nat)(dets:List Nat)(ops:Array Oper)(e:Bool):C:=
 if !ops.all (Pj N)then .bad else
 match e with
 |false=>(match(range ops.size).mapM (λ i=>(ops[i]?).bind (Jk P mu ops))with|some l=>.reg l|none=>.bad)
 |true=>
  let k:=Xn ops ops.size
  let qs:=VD ops (Xt P mu dets ops) ops.size (range k) []
  let ts:=(range ops.size).drop k
  let rl:=(range k).filter (Xt P mu dets ops)
  if !VC ops rl qs ts|| !rl.all (λ i=>((ops[i]?).map (·.guard.isNone)).getD true)then .bad else
  match qs.getLast?.bind λ x=>((ops[x]?).bind (Jk P mu ops)).bind λ st=>if rl.contains x&&ez st.o&&st.g.isNone&&st.dfr.isNone then some (x,st)else none with
  |some (x,st)=>(match qs.dropLast.mapM (λ i=>((ops[i]?).bind (Jk P mu ops)).map λ st=>(Pv P mu ops rl x i,st)),ts.mapM (λ i=>(ops[i]?).bind (Jk P mu ops))with
   |some a,some b=>if a.all (λ x=>x.2.dfr.isNone)then .drs a st b else .bad
   |_,_=>.bad)
  |none=>
  match qs.mapM (λ i=>((ops[i]?).bind (Jk P mu ops)).map λ st=>(VT P mu ops rl i,st)),ts.mapM (λ i=>(ops[i]?).bind (Jk P mu ops))with
  |some a,some b=>if a.all (λ x=>x.2.dfr.isNone)then .drw a b else .bad
  |_,_=>.bad
def eU:Op->Bool
 |.go _=>true
 |_=>false
def ey:Op->Bool
 |.mapEntry ..=>true
 |_=>false
def NJ(ops:Array Oper):Bool:=ops.any λ o=>eU o.op|| ey o.op
def clean(P:Program)(mu:List Nat)(N:Nat)(dets:List Nat):Code->C
 |.skip=>.skip
 |.label _=>.skip
 |.seq a b=>.seq (clean P mu N dets a) (clean P mu N dets b)
 |.cond c a b=>.ite c (clean P mu N dets a) (clean P mu N dets b)
 |.block id b=>.block id (clean P mu N dets b)
 |.loop b=>.loop (clean P mu N dets b)
 |.exit i=>.exit i
 |.ret=>.ret
 |.scope b=>.scope (clean P mu N dets b)
 |.region id ops d=>if NJ ops|| mu.contains (1000+id)then .cd N (.region id ops d)else match T9 P mu N dets ops d with
  |.bad=>.cd N (.region id ops d)
  |c=>c
 |.rangeFunc f ps as e=>.rng N mu dets f ps (clean P mu N dets as) (clean P mu N dets e)
 |.goto _=>.bad
 |.refuse _=>.bad
def eA(b:Zq T->(Nat->Zq T)->Zq T->Zq T)(x:Nat->Zq T)(r:Zq T):Zq T:=λ f ds U=>
 ∃(α:Type)(L:α->List (Nat×Value))(I:α->Qa T->Prop)(μ:α->Nat)(e:α),XS f (L e)/\I e U /\
   ∀y f U,I y U->b (λ z h U'=>h=ds/\∃w,XS z (L w)/\I w U'/\μ w<μ y) x r (ovr (L y) f) ds U
def DE(c:Operand)(a b:Zq T):Zq T:=λ f ds U=>(match Zo f c with
  |.bool t=>CB t (a f ds U) (b f ds U)
  |_=>False)
def Wh(S:Sys P T)(fn:FuncId)(ro:Option Nat)(N:Nat)(mu dets:List Nat)(c:Operand)(params:Array Tmp)(as b:C)(n:Zq T)(x:Nat->Zq T)(r:Zq T):Zq T:=λ f ds U=>
 ∀ca cb:Code,clean P mu N dets ca=as->clean P mu N dets cb=b->∀a:Act,FR N a f ds ->
   Zv S fn ro (.rangeFunc c params ca cb) (λ e a' U'=>a'.tmps=a.tmps/\(match e with|.normal=>n f a'.defers U'|.exit i=>x i f a'.defers U'|.ret=>r f a'.defers U')) a U
def DG(S:Sys P T)(fn:FuncId)(ro:Option Nat)(N:Nat)(c:Code)(n:Zq T)(x:Nat->Zq T)(r:Zq T):Zq T:=λ f ds U=>
 ∀a:Act,FR N a f ds ->
   Zv S fn ro c (λ e a' U'=>a'.tmps.size=a.tmps.size/\∃b,(∀t,a'.tmps.getD t undef=b t)/\(match e with|.normal=>n b a'.defers U'|.exit i=>x i b a'.defers U'|.ret=>r b a'.defers U')) a U
def WA(S:Sys P T)(fn:FuncId)(ro:Option Nat)(c:C):Zq T->(Nat->Zq T)->Zq T->Zq T:=
 C.rec (motive:=λ _=>Zq T->(Nat->Zq T)->Zq T->Zq T)
  (λ n _ _=>n)
  (λ _ _ a b n x r=>a (b n x r) x r)
  (λ c _ _ a b n x r=>DE c (a n x r) (b n x r))
  (λ id _ b n x r=>b n (λ i f ds U=>bif Nat.beq i id then n f ds U else x i f ds U) r)
  (λ _ b _ x r=>eA b x r)
  (λ i _ x _=>x i)
  (λ _ _ r=>r)
  (λ _ b n x r=>b n x r)
  (λ l n _ _=>JV S ro l n)
  (λ qs ts n _ _=>DX S (λ _=>False) qs (λ _=>True) (JV S ro ts n))
  (λ qs st ts n _ _ f ds U=>∃G,XX G/\DX S G qs (λ _=>True) (NL S G st (JV S ro ts n)) f ds U)
  (λ N mu dets c params as e _ _ n x r=>Wh S fn ro N mu dets c params as e n x r)
  (λ N c n x r=>DG S fn ro N c n x r)
  (λ _ _ _ _ _ _=>False) c
end Go.TM
set_option linter.unusedSimpArgs false
namespace Go.TM
variable{T:Type}{P:Program}{S:Sys P T}
def Qa.sees.le{U U':Qa T}{a:Addr}{v:Value}(h:U.sees a v)(b:U.le U'):U'.sees a v:=by
 obtain⟨e,⟨c,t,fr,w,z⟩|⟨t,n,B⟩⟩:=h
 .exact⟨e,.inl ⟨c,t,fr,w.imp (b.imm _ _) (λ h=>b.own▸h),z⟩⟩
 .exact⟨e,.inr ⟨t,n,b.own▸B⟩⟩
def Z6.le{U U':Qa T}{a:Addr}{vs:List Value}(h:Z6 U a vs)(b:U.le U'):Z6 U' a vs:=λ i v e=>(h i v e).le b
def ZI.mono{K h:Value->Qa T->Prop}(e:∀v U,K v U->h v U){n:Next}{U:Qa T}(b:ZI S K n U):ZI S h n U:=by
 cases n <;> first|exact e _ _ b|exact Qb.mono b e|exact WE.mono b e|exact b
def OX.mono{o:O}{f:Fm}{K F:Value->Qa T->Prop}{U:Qa T}(e:∀v U,K v U->F v U)(h:OX S o f K U):OX S o f F U:=by
 cases o with
 |raw o=>exact λ a L=>Qr.mono _ (h a L) λ n U E=>ZI.mono (λ v U⟨w,H,I⟩=>⟨w,H,e _ _ I⟩) E
 |call c args=>
  simp only[OX]at h ⊢;split at h
  .simp only[Wb]at h ⊢;exact⟨h.1,h.2.mono λ v U h N=>e v U (h N)⟩
  .simp only[Wb]at h ⊢;exact Qr.mono _ h λ n U E=>ZI.mono e E
  .exact h
 |st n x v=>
  simp only[OX]at h ⊢;split at h
  .exact⟨h.1,ZB.mono (λ U⟨w,a,b⟩=>⟨w,a,e _ w b⟩) _ _ _ h.2⟩
  .exact h
 |box t x=>simp only[OX,S0]at h ⊢;exact λ b w M B=>e _ _ (h b w M B)
 |boxM t x=>exact λ b B=>e _ _ (h b B)
 |alloc t z=>exact λ b B=>let ⟨w,a,b⟩:=h b B;⟨w,a,e _ _ b⟩
 |bsl t len z ps=>
  simp only[OX,G8,Array.toArray_toList]at h ⊢;split at h
  .exact λ b B=>let ⟨w,a,b⟩:=h b B;⟨w,a,e _ _ b⟩
  .exact h
 |lenM x=>
  simp only[OX]at h ⊢;split at h
  .exact e _ _ h
  .obtain⟨a,b,c,d⟩:=h;exact⟨a,b,c,e _ _ d⟩
  .exact h
 |mv x=>simp only[OX,Q0]at h ⊢;exact e _ _ h
 |mkf fn first G=>simp only[OX,Wb]at h ⊢;exact e _ _ h
 |pick c a b=>
  simp only[OX,Q0]at h ⊢;split at h
  .exact e _ _ h
  .exact e _ _ h
  .exact h
 |ext x i=>
  simp only[OX,Q0]at h ⊢;split at h
  .split at h
   .exact e _ _ h
   .exact h
  .exact h
 |part1 off x=>
  simp only[OX,Q0]at h ⊢;split at h
  .split at h
   .exact e _ _ h
   .exact h
  .exact h
 |ld x=>
  simp only[OX,Q0]at h ⊢;split at h
  .obtain⟨v,a,b⟩:=h;exact⟨v,a,e _ _ b⟩
  .exact h
 |ldn n x=>
  simp only[OX]at h ⊢;split at h
  .obtain⟨v,a,b⟩:=h;exact⟨v,a,e _ _ b⟩
  .exact h
 |sidx x i=>
  simp only[OX]at h ⊢;split at h
  .obtain⟨j,v,a,b⟩:=h;exact⟨j,v,a,e _ _ b⟩
  .exact h
 |idx n x i=>
  simp only[OX]at h ⊢;split at h
  .obtain⟨ad,j,a,b⟩:=h;exact⟨ad,j,a,e _ _ b⟩
  .exact h
 |aidx n m x i=>
  simp only[OX]at h ⊢;split at h
  .obtain⟨j,a,b⟩:=h;exact⟨j,a,e _ _ b⟩
  .exact h
 |sub3 sz x lo P=>
  simp only[OX]at h ⊢;split at h
  .split at h
   .obtain⟨l,hh,a,b⟩:=h;exact⟨l,hh,a,e _ _ b⟩
   .exact h
  .exact h
 |build z ps=>
  simp only[OX,G8,Array.toArray_toList]at h ⊢;split at h
  .exact e _ _ h
  .exact h
 |cmp op x y=>
  simp only[OX]at h ⊢;split at h
  .refine⟨h.1,?_⟩;cases op <;> first|exact h.2.elim|exact e _ _ h.2
  .exact h
 |beq op x y=>
  simp only[OX]at h ⊢;split at h
  .cases op <;> first|exact h.elim|exact e _ _ h
  .exact h
 |teq op x y=>
  simp only[OX]at h ⊢;split at h
  .cases op <;> first|exact h.elim|exact e _ _ h
  .exact h
 |ar op x y=>
  simp only[OX]at h ⊢;split at h
  .cases op <;> first|exact h.elim|exact⟨h.1,h.2.1,e _ _ h.2.2⟩|exact⟨h.1,e _ _ h.2⟩
  .exact h
 |_=>
  simp only[OX]at h ⊢;split at h
  .first|exact⟨h.1,e _ _ h.2⟩|exact e _ _ h
  .exact h
def OX.stable{o:O}{f:Fm}{K:Value->Qa T->Prop}{U:Qa T}(E:stable o=true)(h:OX S o f K U):∃v,K v U/\∀(U':Qa T)(w:Value->Qa T->Prop),(P0 o=false\/U.le U')->w v U'->OX S o f w U':=by
 cases o with
 |raw o=>cases E
 |call c args=>cases E
 |st n x v=>cases E
 |box t x=>cases E
 |boxM t x=>cases E
 |alloc t z=>cases E
 |bsl t len z ps=>cases E
 |lenM x=>cases E
 |mv x=>simp only[OX,Q0]at h;exact⟨_,h,λ _ _ _ k=>by simpa only[OX,Q0]using k⟩
 |mkf fn first F=>simp only[OX,Wb]at h;exact⟨_,h,λ _ _ _ k=>by simpa only[OX,Wb]using k⟩
 |pick c a b=>
  simp only[OX,Q0]at h;split at h <;> rename_i e
  .exact⟨_,h,λ _ _ _ k=>by simpa[OX,Q0,e]using k⟩
  .exact⟨_,h,λ _ _ _ k=>by simpa[OX,Q0,e]using k⟩
  .exact h.elim
 |ext x i=>
  simp only[OX,Q0]at h;split at h <;> rename_i e
  .split at h <;> rename_i e'
   .exact⟨_,h,λ _ _ _ k=>by simpa[OX,Q0,e,e']using k⟩
   .exact h.elim
  .exact h.elim
 |part1 off x=>
  simp only[OX,Q0]at h;split at h <;> rename_i e
  .split at h <;> rename_i e'
   .exact⟨_,h,λ _ _ _ k=>by simpa[OX,Q0,e,e']using k⟩
   .exact h.elim
  .exact h.elim
 |ld x=>
  simp only[OX,Q0]at h;split at h <;> rename_i e
  .obtain⟨v,a,b⟩:=h;exact⟨v,b,λ U' w B k=>by simp only[OX,Q0,e];exact⟨v,a.le (B.resolve_left (by simp[P0])),k⟩⟩
  .exact h.elim
 |ldn n x=>
  simp only[OX]at h;split at h <;> rename_i e
  .obtain⟨v,a,b⟩:=h;exact⟨_,b,λ U' w B k=>by simp only[OX,Q0,e];exact⟨v,⟨a.1,a.2.le (B.resolve_left (by simp[P0]))⟩,k⟩⟩
  .exact h.elim
 |sidx x i=>
  simp only[OX]at h;split at h
  .rename_i e e';obtain⟨j,v,a,b⟩:=h;exact⟨_,b,λ U' w B k=>by simp only[OX,Q0,e,e'];exact⟨j,v,a,k⟩⟩
  .exact h.elim
 |sub3 sz x lo I=>
  simp only[OX]at h;split at h <;> rename_i e
  .split at h <;> rename_i e'
   .obtain⟨l,hh,a,b⟩:=h;exact⟨_,b,λ U' w B k=>by simp only[OX,Q0,e,e'];exact⟨l,hh,a,k⟩⟩
   .exact h.elim
  .exact h.elim
 |build z ps=>
  simp only[OX,G8,Array.toArray_toList]at h;split at h <;> rename_i e
  .exact⟨_,h,λ U' w B k=>by simp only[OX,Q0,G8,Array.toArray_toList,e];exact k⟩
  .exact h.elim
 |cmp op x y=>
  simp only[OX]at h;split at h
  .rename_i e e';obtain⟨H,h⟩:=h;cases op <;> first|exact h.elim|exact⟨_,h,λ U' w B k=>by simp only[OX,Q0,e,e'];exact⟨H,k⟩⟩
  .exact h.elim
 |beq op x y=>
  simp only[OX]at h;split at h
  .rename_i e e';cases op <;> first|exact h.elim|exact⟨_,h,λ U' w B k=>by simp only[OX,Q0,e,e'];exact k⟩
  .exact h.elim
 |teq op x y=>
  simp only[OX]at h;split at h
  .rename_i e e';cases op <;> first|exact h.elim|exact⟨_,h,λ U' w B k=>by simp only[OX,Q0,e,e'];exact k⟩
  .exact h.elim
 |ar op x y=>
  simp only[OX]at h;split at h
  .rename_i e e'
   cases op <;> first
    |exact h.elim
    |exact⟨_,h.2.2,λ U' w B k=>by simp only[OX,Q0,e,e'];exact⟨h.1,h.2.1,k⟩⟩
    |exact⟨_,h.2,λ U' w B k=>by simp only[OX,Q0,e,e'];exact⟨h.1,k⟩⟩
  .exact h.elim
 |add x y=>simp only[OX]at h;split at h;{ rename_i e e';exact⟨_,h.2,λ U' w B k=>by simp only[OX,Q0,e,e'];exact⟨h.1,k⟩⟩ };exact h.elim
 |sub x y=>simp only[OX]at h;split at h;{ rename_i e e';exact⟨_,h.2,λ U' w B k=>by simp only[OX,Q0,e,e'];exact⟨h.1,k⟩⟩ };exact h.elim
 |mul x y=>simp only[OX]at h;split at h;{ rename_i e e';exact⟨_,h.2,λ U' w B k=>by simp only[OX,Q0,e,e'];exact⟨h.1,k⟩⟩ };exact h.elim
 |idx n x y=>simp only[OX]at h;split at h;{ rename_i e e';obtain⟨G,j,a,b⟩:=h;exact⟨_,b,λ U' w B k=>by simp only[OX,Q0,e,e'];exact⟨G,j,a,k⟩⟩ };exact h.elim
 |aidx n m x y=>simp only[OX]at h;split at h;{ rename_i e e';obtain⟨j,a,b⟩:=h;exact⟨_,b,λ U' w B k=>by simp only[OX,Q0,e,e'];exact⟨j,a,k⟩⟩ };exact h.elim
 |_=>
  simp only[OX]at h;split at h <;> rename_i e
  .exact⟨_,h,λ U' w B k=>by simp only[OX,Q0,e];exact k⟩
  .exact h.elim
section region
variable{N:Nat}{fn:FuncId}{ro:Option Nat}{mu:List Nat}{ops:Array Oper}
def sS{todo:List Nat}{Q:Ex->Act->Qa T->Prop}{A:Value->Act}:∀v U U',Qx U U'->QU S fn ro ops todo Q (A v) U'->QU S fn ro ops todo Q (A v) U:=λ _ _ _ b h=>GJ b h
inductive YX(P:Program)(mu:List Nat)(ops:Array Oper)(o:Oper):St->Prop
 |plain:(∀c,o.op≠.defer c)->o.guard=none->YX P mu ops o ⟨Zb P mu o,o.dst,none,none⟩
 |guarded {j:Nat} {w:Bool} {d:Nat}:(∀c,o.op≠.defer c)->o.guard=some (j,w)->(ops[j]?).bind (·.dst)=some d->YX P mu ops o ⟨Zb P mu o,o.dst,some (d,w),none⟩
 |dfr {c:Operand} {args:Array Operand} {ats:Array TypeId}:o.op=.defer { callee:=.value c,args:=args,argTypes:=ats }->o.guard=none->YX P mu ops o ⟨.mv c,o.dst,none,some (c,args)⟩
def VX{o:Oper}{st:St}(h:Jk P mu ops o=some st):YX P mu ops o st:=by
 unfold Jk at h;split at h
 .rename_i ho hg;cases h;exact .dfr ho hg
 .cases h
 .rename_i hg hnd0 hnd;cases h;exact .plain (λ c b=>hnd c b) hg
 .rename_i j w hg hnd;split at h
  .rename_i hd;cases h;exact .guarded (λ c b=>hnd c b) hg hd
  .cases h
def Wv{o:Oper}{a:Act}(b:o.guard=none):Region.wanted o (yielded ops a.tmps)=true:=by simp[Region.wanted,b]
def Tp{o:Oper}{a:Act}{j:Nat}{w:Bool}{d:Nat}{b:Bool}(h:o.guard=some (j,w))(e:(ops[j]?).bind (·.dst)=some d)(z:a.tmps[d]?=some (.bool b)) :
  Region.wanted o (yielded ops a.tmps)=(b==w):=by
 simp only[Region.wanted,h,yielded,e,Option.bind_some,z];cases b <;> cases w <;> rfl
def TK{o:Oper}{N:Nat}{a:Act}{f:Fm}{ds:List Deferred}(e:FR N a f ds){j:Nat}{w:Bool}{d:Nat}{vs:Array Value}(h:o.guard=some (j,w))(b:(ops[j]?).bind (·.dst)=some d)(z:f d=.tuple vs) :
  Region.wanted o (yielded ops a.tmps)=false:=by
 have:=e.get d;rw[z,Array.getD_eq_getD_getElem?]at this
 have E:yielded ops a.tmps j=none:=by
  simp only[yielded,b,Option.bind_some];cases B:a.tmps[d]? with
  |none=>rfl
  |some v=>
   rw[B]at this;simp only[Option.getD_some]at this;subst this;rfl
 simp only[Region.wanted,h,E];cases w <;> rfl
def Vy{Q:Ex->Act->Qa T->Prop}{n:Zq T}(hQ:∀a f ds U,FR N a f ds->n f ds U->Q .normal a U)(hN:∀(i:Nat)(o:Oper),ops[i]?=some o->∀d,o.dst=some d->d<N) :
  ∀(z:List Nat)(l:List St),z.mapM (λ i=>(ops[i]?).bind (Jk P mu ops))=some l ->
   ∀(a:Act)(f:Fm)(ds:List Deferred)(U:Qa T),FR N a f ds->JV S ro l n f ds U->QU S fn ro ops z Q a U:=by
 intro z
 induction z with
 |nil=>
  intro l M a f ds U B h;simp at M;subst M;exact NB (hQ a f ds U B h)
 |cons i z W=>
  intro l M a f ds U B h;simp only[mapM_cons,Option.pure_def,Option.bind_eq_bind,Option.bind_eq_some_iff]at M;obtain⟨st,⟨o,H,Z⟩,l',F,e⟩:=M;cases e;have K:=hN i o H
  have step:∀{f:Fm},FR N a f ds->(∀c,o.op≠.defer c)->Region.wanted o (yielded ops a.tmps)=true->OX S (Zb P mu o) f (λ v U'=>JV S ro l' n (ZE f o.dst v) ds U') U->QU S fn ro ops (i::z) Q a U:=by
   intro f B E I h;refine Hm H I (.inr E) (QL.opV (Xj (λ x=>B.eval x) sS (OX.mono (λ v U' hv=>?_) h)));exact W l' F _ _ _ _ (B.put o.dst v K) hv
  cases VX Z with
  |plain E G=>simp only[Sd,VH]at h;exact step B E (Wv G) h
  |@guarded j w d E G L=>
   simp only[Sd,VH]at h;split at h
   .rename_i b hb;have I:=Tp (ops:=ops) (o:=o) G L (B.slot hb);have e:JK f d (.bool b)=f:=YN hb;cases b <;> cases w <;> simp only[GB,Bool.not_true,Bool.not_false]at h <;> rw[e]at h
    .exact step B E (by rw[I];rfl) h
    .exact PG H (by rw[I];rfl) (W l' F _ _ _ _ (B.put o.dst undef K) h)
    .exact PG H (by rw[I];rfl) (W l' F _ _ _ _ (B.put o.dst undef K) h)
    .exact step B E (by rw[I];rfl) h
   .rename_i vs hb;exact PG H (TK B G L hb) (W l' F _ _ _ _ (B.put o.dst undef K) h)
   .exact h.elim
  |@dfr c args aa Y G=>
   simp only[Sd,VH]at h;split at h
   .rename_i g first capt e
    obtain⟨V,h⟩:=h;have X:a.eval=Zo f:=funext B.eval;refine Hm H (Wv G) (.inl V) ?_;unfold Gt;simp only[execOp,Y,Qf,resolve,X,e,Deferred.ofValue,Qk,Ol];refine⟨V,W l' F _ _ _ _ ?_ h⟩;have h1:FR N { a with defers:={ target:=.fn g capt,args:=first++args.map (Zo f) }::a.defers } f ({ target:=.fn g capt,args:=first++args.map (Zo f) }::ds):=⟨by rw[B.ds],B.size,B.get⟩;exact h1.put o.dst undef K
   .exact h.elim
def Ju{U':Qa T}{v:Value}:∀(z:Value)(h w:Qa T),Qx h w->(z=v/\∃b,Qx w b/\U'.le b)->(z=v/\∃b,Qx h b/\U'.le b):=
 λ _ _ _ F⟨e,b,B,E⟩=>⟨e,b,F.trans B,E⟩
def MN{Fin:Act->Qa T->Prop}{K:Zq T}{U:Qa T}{rl:List Nat}{B:Nat->Nat->Prop}{late:Nat->Bool}{G:Qa T->Prop}{tail:List Nat}{kind:Nat->Nat}(af:∀a f ds H,FR N a f ds->(∀U',U.le U'->H U'->K f ds U')->ZX S ops rl B late G U Fin tail H a)(hN:∀(i:Nat)(o:Oper),ops[i]?=some o->∀d,o.dst=some d->d<N)
  (aa:∀i,kind i=0\/kind i=1\/kind i=3->i∉rl) (ai:∀i,kind i≠0->kind i≠1->kind i≠3->i∈rl) (ae:∀i,kind i=0->∀o,ops[i]?=some o->stable (Zb P mu o)=true/\(late i=true->P0 (Zb P mu o)=false)) (ah:∀i,kind i=1->late i=false) :
  ∀(z:List Nat)(l:List (Nat×St)),z.mapM (λ i=>((ops[i]?).bind (Jk P mu ops)).map λ st=>(kind i,st))=some l->(l.all λ x=>x.2.dfr.isNone)=true->(∀i∈z,∀o,ops[i]?=some o->o.guard=none\/i∉rl) ->
   ∀(a:Act)(f:Fm)(ds:List Deferred)(H:Qa T->Prop),FR N a f ds->DX S G l H K f ds U->ZX S ops rl B late G U Fin (z++tail) H a:=by
 intro z
 induction z with
 |nil=>
  intro l hl _ _ a f ds H E h;simp at hl;subst hl;exact af a f ds H E h
 |cons i z ih=>
  intro l hl Q ad a f ds H E h;simp only[mapM_cons,Option.pure_def,Option.bind_eq_bind,Option.bind_eq_some_iff,Option.map_eq_some_iff]at hl;obtain⟨x,⟨st,⟨o,V,Y⟩,rfl⟩,l',aj,e⟩:=hl;cases e;simp only[all_cons,Bool.and_eq_true]at Q;have hd:=hN i o V;have L:=ih l' aj Q.2 (λ j hj=>ad j (mem_cons_of_mem _ hj))
  have run:∀{f:Fm},FR N a f ds->Region.wanted o (yielded ops a.tmps)=true ->
    (match kind i with
     |0=>OX S (Zb P mu o) f (λ v _=>DX S G l' H K (ZE f o.dst v) ds U) U
     |1=>∃v,(∀U',U.le U'->H U'->OX S (Zb P mu o) f (λ v' U2=>v'=v/\∃M,Qx U2 M/\U'.le M) U')/\DX S G l' H K (ZE f o.dst v) ds U
     |3=>∃v,(∀U',U.le U'->H U'->OX S (Zb P mu o) f (λ v' U2=>v'=v/\∃M,Qx U2 M/\U'.le M) U')/\(∀U',G U'->OX S (Zb P mu o) f (λ v' U2=>v'=v/\∃M,Qx U2 M/\U'.le M) U')/\DX S G l' H K (ZE f o.dst v) ds U
     |_=>∃F:Value->Qa T->Prop,(∀v,XX (F v))/\(∀U',U.le U'->H U'->OX S (Zb P mu o) f (λ v' U2=>∃M,Qx U2 M/\F v' M/\U'.le M) U') /\
       ∀v,(∃U',U.le U'/\H U'/\F v U')->DX S G l' (λ U'=>H U'/\F v U') K (ZE f o.dst v) ds U)->ZX S ops rl B late G U Fin (i::(z++tail)) H a:=by
   intro f E Z h;split at h
   .rename_i hk;obtain⟨v,hn,Y⟩:=OX.stable (ae i hk o V).1 h;refine .det v (aa i (.inl hk)) V Z (λ U' I _=>?_) (λ X U' _=>?_) (L _ _ _ _ (E.put o.dst v hd) hn)
    .exact Xj (λ x=>E.eval x) Ju (Y U' _ (.inr I) ⟨rfl,U',.refl _,.refl _⟩)
    .exact Xj (λ x=>E.eval x) Ju (Y U' _ (.inl ((ae i hk o V).2 X)) ⟨rfl,U',.refl _,.refl _⟩)
   .rename_i hk;obtain⟨v,W,hn⟩:=h;refine .det v (aa i (.inr (.inl hk))) V Z (λ U' I hc=>?_) (λ X=>by rw[ah i hk]at X;cases X) (L _ _ _ _ (E.put o.dst v hd) hn);exact Xj (λ x=>E.eval x) Ju (W U' I hc)
   .rename_i hk;obtain⟨v,W,ag,hn⟩:=h;refine .det v (aa i (.inr (.inr hk))) V Z (λ U' I hc=>?_) (λ _ U' hg=>?_) (L _ _ _ _ (E.put o.dst v hd) hn)
    .exact Xj (λ x=>E.eval x) Ju (W U' I hc)
    .exact Xj (λ x=>E.eval x) Ju (ag U' hg)
   .rename_i h0 h1 h3;obtain⟨F,hF,W,hn⟩:=h;refine .rel F (ai i (λ e=>h0 e) (λ e=>h1 e) (λ e=>h3 e)) hF V Z (λ U' I hc=>?_) (λ v hv=>L _ _ _ _ (E.put o.dst v hd) (hn v hv));exact Xj (λ x=>E.eval x) (λ v' U2 U3 hs⟨M,a,b,c⟩=>⟨M,hs.trans a,b,c⟩) (W U' I hc)
  cases VX Y with
  |plain ak hg=>simp only[MU,VP]at h;exact run E (Wv hg) h
  |@guarded j w d ak hg ac=>
   simp only[MU,VP]at h;have ab:i∉rl:=(ad i (mem_cons_self ..) o V).resolve_left (by rw[hg];simp);split at h
   .rename_i b hb;have Z:=Tp (ops:=ops) (o:=o) hg ac (E.slot hb);have e:JK f d (.bool b)=f:=YN hb;cases b <;> cases w <;> simp only[GB,Bool.not_true,Bool.not_false]at h <;> rw[e]at h
    .exact run E (by rw[Z];rfl) h
    .exact .un ab V (by rw[Z];rfl) (L _ _ _ _ (E.put o.dst undef hd) h)
    .exact .un ab V (by rw[Z];rfl) (L _ _ _ _ (E.put o.dst undef hd) h)
    .exact run E (by rw[Z];rfl) h
   .rename_i vs hb;exact .un ab V (TK E hg ac hb) (L _ _ _ _ (E.put o.dst undef hd) h)
   .exact h.elim
  |dfr=>simp at Q
end region
def P5(N:Nat)(n:Zq T)(x:Nat->Zq T)(r:Zq T)(e:Ex)(a:Act)(U:Qa T):Prop:=
 ∃f ds,FR N a f ds/\(match e with|.normal=>n f ds U|.exit i=>x i f ds U|.ret=>r f ds U)
def ZX.fin{ops:Array Oper}{rl:List Nat}{B:Nat->Nat->Prop}{late:Nat->Bool}{G:Qa T->Prop}{U:Qa T}{Fin w:Act->Qa T->Prop}(H:∀a U,Fin a U->w a U){l:List Nat}{E:Qa T->Prop}{a:Act}(h:ZX S ops rl B late G U Fin l E a):ZX S ops rl B late G U w l E a:=by
 induction h with
 |nil h=>exact .nil λ U' a b=>H _ _ (h U' a b)
 |un a b c _ z=>exact .un a b c z
 |det v a b c d e _ z=>exact .det v a b c d e z
 |rel F a b c d e _ z=>exact .rel F a b c d e z
 |last a b c d e f g=>exact .last a b c d e f λ I U' h=>H _ _ (g I U' h)
section code
variable{N:Nat}{fn:FuncId}{ro:Option Nat}{mu dets:List Nat}
def sG{G:Type}{c:Code}{Q:Ex->Act->Qa T->Prop}(I:G->Act->Qa T->Prop)(μ:G->Nat){g:G}{a:Act}{U:Qa T}(E:I g a U)
  (round:∀g a U,I g a U->Zv S fn ro c (λ e a' U'=>match e with|.normal=>∃g',I g' a' U'/\μ g'<μ g|e=>Q e a' U') a U):Zv S fn ro (.loop c) Q a U:=by
 intro Stop m b k cs F w;refine .still rfl (λ _=>uQ) ?_
 have key:∀N g a U,μ g<=N->I g a U->J S Stop m (R b a (.code c::.inLoop c::k) cs) U:=by
  intro N
  induction N with
  |zero=>
   intro g a U H z;refine round g a U z Stop m b (.inLoop c::k) cs F λ e a' U' q=>?_;cases e with
   |normal=>obtain⟨g',_,h⟩:=q;exact absurd h O1
   |exit id=>exact(w _ _ _ q).push (λ _ _=>rfl) S1
   |ret=>exact(w _ _ _ q).push (x:=.inLoop c) (λ _ _=>rfl) S1
  |succ N K=>
   intro g a U H z;refine round g a U z Stop m b (.inLoop c::k) cs F λ e a' U' q=>?_;cases e with
   |normal=>obtain⟨g',B,h⟩:=q;exact .still rfl (λ _=>yg) (K g' a' U' O1 B)
   |exit id=>exact(w _ _ _ q).push (λ _ _=>rfl) S1
   |ret=>exact(w _ _ _ q).push (x:=.inLoop c) (λ _ _=>rfl) S1
 exact key _ g a U (Nat.le_refl _) E
def u_{ops:Array Oper}(h:ops.all (Pj N)=true):∀(i:Nat)(o:Oper),ops[i]?=some o->∀d,o.dst=some d->d<N:=by
 intro i o e d b;have:=(Array.all_eq_true'.1 h) o (Array.mem_of_getElem? e);simpa[Pj,b]using this
def Rv(hm:P.follows .mixedOrders=true){id:Nat}{ops:Array Oper}{d:Bool}{n:Zq T}{x:Nat->Zq T}{r:Zq T}{f:Fm}{ds:List Deferred}{U:Qa T}{a:Act}(F:FR N a f ds)
  (h:WA S fn ro (T9 P mu N dets ops d) n x r f ds U):Zv S fn ro (.region id ops d) (P5 N n x r) a U:=by
 unfold T9 at h;split at h
 .exact h.elim
 .rename_i hall;have X:=u_ (N:=N) (ops:=ops) (by simpa using hall);have hQ:∀a f ds U,FR N a f ds->n f ds U->P5 N n x r .normal a U:=λ a f ds U F h=>⟨f,ds,F,h⟩;split at h
  .split at h
   .rename_i l W;exact Mz (Vy hQ X _ l W a f ds U F h)
   .exact h.elim
  .dsimp only at h
   split at h
   .exact h.elim
   .rename_i M;simp only[Bool.or_eq_true,Bool.not_eq_true',not_or,Bool.not_eq_false]at M;obtain⟨M,aa⟩:=M;split at h
    .rename_i x st Q;split at h
     .rename_i la lb hla hlb;split at h
      .rename_i hdf;obtain⟨G,hG,h⟩:=h;simp only[Option.bind_eq_some_iff]at Q;obtain⟨x',I,st',⟨o,z,ad⟩,Q⟩:=Q;split at Q
       .rename_i w;cases Q;simp only[Bool.and_eq_true,contains_iff_mem,Option.isNone_iff_eq_none]at w;obtain⟨⟨⟨ae,ag⟩,ac⟩,ab⟩:=w;refine E_ (late:=Om ops x) (G:=G) _ _ _ hm M ?_;refine ZX.fin (Fin:=λ a U=>∃f ds,FR N a f ds/\JV S ro lb n f ds U) (λ a U⟨f,ds,F,h⟩=>Vy hQ X _ lb hlb a f ds U F h) ?_
        obtain⟨Z,rfl⟩:o.guard=none/\st=⟨Zb P mu o,o.dst,none,none⟩:=by
         cases VX ad with
         |plain _ Z=>exact⟨Z,rfl⟩
         |guarded=>cases ac
         |dfr=>cases ab
        have hq:VD ops (Xt P mu dets ops) ops.size (range (Xn ops ops.size)) []=(VD ops (Xt P mu dets ops) ops.size (range (Xn ops ops.size)) []).dropLast++[x]:=by
         rw[getLast?_eq_some_iff]at I;obtain⟨ys,af⟩:=I;rw[af];simp
        rw[hq];refine MN (S:=S) (mu:=mu) (tail:=[x]) (K:=NL S G ⟨Zb P mu o,o.dst,none,none⟩ (JV S ro lb n)) (λ a f ds Cn F h=>.last ae hG (λ j hj=>?_) z (Wv Z) (λ U' L w=>?_) (λ Q U'' Z=>?_)) X ?_ ?_ ?_ ?_ _ la hla hdf ?_ a f ds _ F h
        .refine Wx ops ops.size x j ?_;simpa[Om]using hj
        .exact Xj (λ x=>F.eval x) (λ v' U2 U3 Y⟨e,U1,a,b⟩=>⟨e,U1,Y.trans a,b⟩) (h U' L w).1
        .obtain⟨U',L,w⟩:=Q;exact⟨_,_,F.put o.dst undef (X x o z),(h U' L w).2 U'' Z⟩
        .intro i H w;have E:=contains_iff_mem.2 w;simp only[Pv,E,if_true]at H;rcases H with H|H|H <;> cases H
        .intro i h0 h1 h3;apply Classical.byContradiction;intro w
         have E:(List.filter (Xt P mu dets ops) (range (Xn ops ops.size))).contains i=false:=by
          cases V:(List.filter (Xt P mu dets ops) (range (Xn ops ops.size))).contains i with
          |false=>rfl
          |true=>exact absurd (contains_iff_mem.1 V) w
         simp only[Pv,E,Bool.false_eq_true,if_false]at h0 h1 h3;cases z:ops[i]? with
         |none=>simp[z]at h3
         |some o=>
          simp only[z]at h0 h1 h3;split at h0
          .exact h0 rfl
          .rename_i hh;simp only[hh,Bool.false_eq_true,if_false]at h1 h3;split at h1
           .rename_i W;simp[W]at h3
           .exact h1 rfl
        .intro i h0 o z;simp only[Pv]at h0;split at h0
         .cases h0
         .simp only[z]at h0;split at h0
          .rename_i hh;simp only[Bool.and_eq_true,Bool.or_eq_true,Bool.not_eq_true']at hh;exact⟨hh.1,λ W=>hh.2.resolve_right (by rw[W];simp)⟩
          .split at h0 <;> cases h0
        .intro i h1;simp only[Pv]at h1;split at h1
         .cases h1
         .split at h1
          .split at h1
           .cases h1
           .split at h1
            .cases h1
            .rename_i W;simpa using W
          .cases h1
        .intro i _ o z;by_cases w:i∈List.filter (Xt P mu dets ops) (range (Xn ops ops.size))
         .refine .inl ?_;have:=all_eq_true.1 aa i w;simpa[z]using this
         .exact .inr w
       .cases Q
      .exact h.elim
     .exact h.elim
    .split at h
     .rename_i la lb hla hlb;split at h
      .rename_i hdf;refine E_ (late:=λ _=>false) (G:=λ _=>False) _ _ _ hm M ?_;refine ZX.fin (Fin:=λ a U=>∃f ds,FR N a f ds/\JV S ro lb n f ds U) (λ a U⟨f,ds,F,h⟩=>Vy hQ X _ lb hlb a f ds U F h) ?_;have key:=MN (S:=S) (mu:=mu) (rl:=List.filter (Xt P mu dets ops) (range (Xn ops ops.size))) (B:=JC ops) (late:=λ _=>false) (G:=λ _=>False) (tail:=[]) (Fin:=λ a U=>∃f ds,FR N a f ds/\JV S ro lb n f ds U) (K:=JV S ro lb n) (U:=U) (λ a f ds Cn F h=>.nil λ U' L w=>⟨f,ds,F,h U' L w⟩) X ?_ ?_ ?_ (λ _ _=>rfl) _ la hla hdf ?_ a f ds (λ _=>True) F h
       .simpa using key
       .intro i H w;have E:=contains_iff_mem.2 w;simp only[VT,E,if_true]at H;rcases H with H|H|H <;> cases H
       .intro i h0 h1 h3;apply Classical.byContradiction;intro w
        have E:(List.filter (Xt P mu dets ops) (range (Xn ops ops.size))).contains i=false:=by
         cases V:(List.filter (Xt P mu dets ops) (range (Xn ops ops.size))).contains i with
         |false=>rfl
         |true=>exact absurd (contains_iff_mem.1 V) w
        simp only[VT,E,Bool.false_eq_true,if_false]at h0 h1;cases z:ops[i]? with
        |none=>simp[z]at h1
        |some o=>
         simp only[z]at h0 h1;by_cases Y:stable (Zb P mu o)=true <;> simp[Y]at h0 h1
       .intro i h0 o z;simp only[VT]at h0;split at h0
        .cases h0
        .simp only[z]at h0;by_cases Y:stable (Zb P mu o)=true
         .exact⟨Y,λ h=>by cases h⟩
         .simp[Y]at h0
       .intro i _ o z;by_cases w:i∈List.filter (Xt P mu dets ops) (range (Xn ops ops.size))
        .refine .inl ?_;have:=all_eq_true.1 aa i w;simpa[z]using this
        .exact .inr w
      .exact h.elim
     .exact h.elim
def GH(hm:P.follows .mixedOrders=true):∀(code:Code){n:Zq T}{x:Nat->Zq T}{r:Zq T}{f:Fm}{ds:List Deferred}{U:Qa T}{a:Act},FR N a f ds->WA S fn ro (clean P mu N dets code) n x r f ds U ->
  Zv S fn ro code (P5 N n x r) a U:=by
 intro code
 induction code with
 |skip=>exact λ b h=>ut ⟨_,_,b,h⟩
 |label l=>exact λ b h=>sF ⟨_,_,b,h⟩
 |region id ops d=>
  intro n x r f ds U a b h;simp only[clean]at h
  have cd:WA S fn ro (.cd N (.region id ops d)) n x r f ds U->Zv S fn ro (.region id ops d) (P5 N n x r) a U:=λ h=>by
   refine Zv.mono (h a b) λ e a' U'⟨M,F,z,B⟩=>⟨F,a'.defers,⟨rfl,by rw[M];exact b.size,z⟩,?_⟩;cases e <;> exact B
  split at h
  .exact cd h
  .split at h
   .exact cd h
   .exact Rv hm b h
 |seq Q V H K=>
  intro n x r f ds U a b h;refine dX (Zv.mono (H b h) λ e a' U' B=>?_);obtain⟨F,E,z,B⟩:=B;cases e with
  |normal=>exact K z B
  |exit i=>exact⟨F,E,z,B⟩
  |ret=>exact⟨F,E,z,B⟩
 |cond c Q V H K=>
  intro n x r f ds U a b h
  replace h:DE c (WA S fn ro (clean P mu N dets Q) n x r) (WA S fn ro (clean P mu N dets V) n x r) f ds U:=h
  unfold DE at h;split at h
  .rename_i t M;refine us t (by rw[b.eval];exact M) ?_;cases t
   .exact K b h
   .exact H b h
  .exact h.elim
 |block id c W=>
  intro n x r f ds U a b h;refine sE (Zv.mono (W b h) λ e a' U' B=>?_);obtain⟨F,E,z,B⟩:=B;cases e with
  |normal=>exact⟨F,E,z,B⟩
  |exit i=>
   simp only at B ⊢;by_cases e:i=id
   .subst e;have:Nat.beq i i=true:=S1
    rw[this]at B;rw[if_pos rfl];exact⟨F,E,z,B⟩
   .have:Nat.beq i id=false:=by cases hb:Nat.beq i id with|false=>rfl|true=>exact absurd (Nat.eq_of_beq_eq_true hb) e
    rw[this]at B;rw[if_neg e];exact⟨F,E,z,B⟩
  |ret=>exact⟨F,E,z,B⟩
 |loop c W=>
  intro n x r f ds U a b h;obtain⟨α,L,I,μ,ab,he,X,hr⟩:=h;refine sG (G:=α) (λ y a U=>∃f,FR N a (ovr (L y) f) ds/\I y U) μ (g:=ab) ⟨f,by rw[he.ovr];exact b,X⟩ λ y a U⟨f,b,X⟩=>?_;refine Zv.mono (W b (hr y f U X)) λ e a' U' B=>?_;obtain⟨F,E,z,B⟩:=B;cases e with
  |normal=>
   obtain⟨rfl,y',Z,Y,aa⟩:=B;exact⟨y',⟨F,by rw[Z.ovr];exact z,Y⟩,aa⟩
  |exit i=>exact⟨F,E,z,B⟩
  |ret=>exact⟨F,E,z,B⟩
 |rangeFunc c params assign body _ _=>
  intro n x r f ds U a b h;refine Zv.mono (h _ _ rfl rfl a b) λ e a' U'⟨M,B⟩=>⟨f,a'.defers,⟨rfl,by rw[M];exact b.size,λ t=>by rw[M];exact b.get t⟩,?_⟩;cases e <;> exact B
 |exit id=>exact λ b h=>N2 ⟨_,_,b,h⟩
 |scope c W=>exact λ b h=>sH (W b h)
 |goto l=>exact λ _ h=>h.elim
 |ret=>exact λ b h=>Nu ⟨_,_,b,h⟩
 |refuse w=>exact λ _ h=>h.elim
end code
def fm(args:List Value):Fm:=λ t=>args.getD t undef
def Qp(b o n:Nat):(Addr.mk b o none).add n=⟨b,o+n,none⟩:=by
 simp only[Addr.add];split
 .rename_i h;subst h;rfl
 .rfl
def uH(a:Addr)(h:a.spot=none)(m n:Nat):(a.add m).add n=a.add (m+n):=by
 obtain⟨b,o,s⟩:=a;cases h;rw[Qp,Qp,Qp,Nat.add_assoc]
def Zf.sees{U:Qa T}{b o:Nat}{c:Array Value}{v:Value}(h:Zf U b c)(e:c[o]?=some v):U.sees ⟨b,o,none⟩ v:=by
 obtain⟨t,fr,h⟩:=h;exact⟨rfl,.inl ⟨c,t,fr,.inl h,e⟩⟩
def Zf.le{U U':Qa T}{b:Nat}{c:Array Value}(h:Zf U b c)(e:U.le U'):Zf U' b c:=let ⟨t,fr,h⟩:=h;⟨t,fr,e.imm _ _ h⟩
def Zf.reads{U:Qa T}{b o:Nat}{c:Array Value}{vs:List Value}(h:Zf U b c)(w:∀i v,vs[i]?=some v->c[o+i]?=some v):Z6 U ⟨b,o,none⟩ vs:=by
 intro i v e;rw[Qp];exact h.sees (w i v e)
def Zf.rd{U:Qa T}{b:Nat}{vs:List Value}(h:Zf U b vs.toArray):Z6 U ⟨b,0,none⟩ vs:=h.reads λ k v e=>by simpa using e
def Fe{U U':Qa T}(h:U.le U'):Qx U' U:=by
 refine⟨h.tok.symm,λ w ok=>⟨⟨λ b o e=>ok.imm b o (h.imm b o e),λ r E=>ok.held r (h.own▸E),h.own▸ok.apart,λ r E=>?_⟩,λ l z=>?_,λ l z=>?_⟩⟩
 .have:=ok.sep r (h.own▸E);cases e:U.I r.blk with
  |none=>rfl
  |some o=>rw[h.imm _ _ e]at this;cases this
 .rw[Q8]at z ⊢;rw[h.own];exact z
 .rw[Qz]at z ⊢;rw[h.own];refine z.imp id λ z=>?_;cases l with
  |cell a=>obtain⟨c,t,fr,F,B⟩:=z;exact⟨c,t,fr,h.imm _ _ F,B⟩
  |obj b=>obtain⟨o,G⟩:=z;exact⟨o,h.imm _ _ G⟩
  |output=>exact z
  |goroutines=>exact z
  |mark _=>exact z
def Qb.pure{f:FuncId}{args:Array Value}{U:Qa T}{Q:Value->Prop}(h:Qb S f args (λ v U'=>Q v/\U.le U') U):Qb S f args (λ v U'=>Q v/\U'=U) U:=
 h.post λ _ _⟨q,b⟩=>⟨U,Fe b,q,rfl⟩
end Go.TM
namespace Go.TM
def XR(id:Nat):Code->Option Code
 |.region i ops d=>if i=id then some (.region i ops d)else none
 |.seq a b=>(XR id a).or (XR id b)
 |.cond _ a b=>(XR id a).or (XR id b)
 |.block _ b=>XR id b
 |.loop b=>XR id b
 |.scope b=>XR id b
 |.rangeFunc _ _ a b=>(XR id a).or (XR id b)
 |_=>none
def Pg(fd:Func)(id:Nat):Code:=(fd.body.bind (XR id)).getD .skip
def Pw(fd:Func)(id:Nat):Array Oper:=match Pg fd id with
 |.region _ ops _=>ops
 |_=>#[]
variable{T:Type}{P:Program}{S:Sys P T}
inductive RV where
 |t (n:Nat)
 |c (a:Nat)
 |cn (a n:Nat)
def H1(P:Program):ResultVar->Option RV
 |.tmp t=>some (.t t)
 |.cell a t=>match P.underlying t with
  |some d=>if TypeDesc.agg d then(Jw P t).map (.cn a)else some (.c a)
  |none=>none
def Ox(acc:List Value):Value:=match acc with|[v]=>v|l=>.tuple l.reverse.toArray
def Ow(acc:List Value)(K:Value->Prop):Prop:=match acc with|[v]=>K v|l=>K (.tuple l.reverse.toArray)
def dm(acc:List Value)(K:Value->Prop):Ow acc K=K (Ox acc):=by
 unfold Ow Ox;split <;> simp_all
def Pr(f:Fm)(Q:Value->Qa T->Prop)(x:RV)(e:List Value->Qa T->Prop)(acc:List Value)(U:Qa T):Prop:=
 match x with
 |.t t=>WS (f t) λ v=>e (v::acc) U
 |.c a=>match f a with|.pointer (some b)=>∃v,U.sees b v/\WS v λ v=>e (v::acc) U|_=>False
 |.cn a n=>match f a with|.pointer (some b)=>∃vs:List Value,(vs.length=n/\Z6 U b vs)/\e (.agg vs.toArray::acc) U|_=>False
def G0(f:Fm)(Q:Value->Qa T->Prop)(l:List RV):List Value->Qa T->Prop:=
 List.rec (motive:=λ _=>List Value->Qa T->Prop) (λ acc U=>Ow acc λ v=>Q v U) (λ x _ b=>Pr f Q x b) l
def TL(f:Fm)(Q:Value->Qa T->Prop)(x:RV)(r:List RV):G0 f Q (x::r)=Pr f Q x (G0 f Q r):=rfl
def ND(acc:List Value):Value:=if h:acc.reverse.toArray.size=1 then acc.reverse.toArray[0]else .tuple acc.reverse.toArray
def yd(acc:List Value):Ox acc=ND acc:=by
 unfold ND Ox
 match acc with
 |[]=>rfl
 |[v]=>rfl
 |a::b::r=>rw[dif_neg S1]
def pb{fd:Func}{Q:Value->Qa T->Prop}{f:Fm}{tmps:Array Value}(F:∀t,tmps.getD t undef=f t) :
  ∀(l:List ResultVar)(rl:List RV),l.mapM (H1 P)=some rl->∀(acc:List Value)(U:Qa T),G0 f Q rl acc U->Qr P (X9 (λ x=>match x with
   |ResultVar.tmp t=>pure (tmps.getD t undef)
   |ResultVar.cell a t=>do loadVar t (<- asAddr (tmps.getD a undef))) l acc.reverse.toArray) (λ vs U=>Qr P (pure (if h:vs.size=1 then vs[0]else .tuple vs):Sem Value) Q U) U:=by
 intro l
 induction l with
 |nil=>
  intro rl h acc U b;simp at h;subst h
  replace b:Ow acc (λ v=>Q v U):=b
  rw[dm]at b;rw[yd]at b;exact b
 |cons x l E=>
  intro rl h acc U b;simp only[mapM_cons,Option.pure_def,Option.bind_eq_bind,Option.bind_eq_some_iff]at h;obtain⟨S,w,N,z,e⟩:=h;cases e;have push:∀v:Value,acc.reverse.toArray.push v=(v::acc).reverse.toArray:=λ v=>by apply Array.ext';simp
  cases x with
  |tmp t=>
   simp only[H1,Option.some.injEq]at w;subst w;simp only[TL,Pr,Q0]at b;simp only[X9];rw[Qf,F,Qk,push];exact E _ z _ _ b
  |cell a t=>
   simp only[X9];rw[Qf,Qf,F];simp only[H1]at w;split at w
   .rename_i d hd;split at w
    .rename_i hag;simp only[Option.map_eq_some_iff]at w;obtain⟨n,I,rfl⟩:=w;obtain⟨M,G,B⟩:=Gv I;simp only[TL,Pr]at b;split at b
     .rename_i ad e;obtain⟨vs,⟨H,K⟩,b⟩:=b;rw[e];simp only[asAddr,Qk,loadVar,Qf,HV hd,hag,if_true,Jj G,B,<- H];refine K.cells ?_;simp only[Qk,push];exact E _ z _ _ b
     .exact b.elim
    .rename_i hag;cases w;simp only[TL,Pr]at b;split at b
     .rename_i ad e;obtain⟨v,L,b⟩:=b;rw[Q0]at b;rw[e];simp only[asAddr,Qk,loadVar,Qf,HV hd,hag,Bool.false_eq_true,if_false];refine OR L ?_;rw[push];exact E _ z _ _ b
     .exact b.elim
   .cases w
def DC(rl:List RV)(Q:Value->Qa T->Prop)(f:Fm)(l:List Deferred):Qa T->Prop:=
 List.rec (motive:=λ _=>Qa T->Prop) (λ U=>G0 f Q rl [] U) (λ d _ e U=>match d.target with
  |.collected b=>∃M',J7 b (.deferred none) (.deferred (some [])) U.M M'/\e { U with M:=M' }
  |_=>False) l
def J7.mem{b:Nat}{w o:Obj}{M M':List Qw}(h:J7 b w o M M'):Qw.obj b o∈M:=by
 induction h with
 |here=>exact mem_cons_self ..
 |there _ e=>exact mem_cons_of_mem _ e
def Kz{fd:Func}{rl:List RV}(z:fd.results.toList.mapM (H1 P)=some rl){Q:Value->Qa T->Prop}{f:Fm}:∀(ds:List Deferred)(U:Qa T),DC rl Q f ds U ->
  ∀tmps:Array Value,(∀t,tmps.getD t undef=f t)->Xd P fd Q tmps ds U
 |[],U,h,tmps,w=>by
  have e:fd.results=fd.results.toList.toArray:=rfl;simp only[Xd,results];rw[e,Qf,Oz];exact pb (fd:=fd) w _ _ z [] U h
 |⟨tg,args⟩::ds,U,h,tmps,w=>by
  cases tg with
  |collected b=>
   obtain⟨M',B,h⟩:=h;simp only[Xd,Instr.takeDeferred,Qf,getObj];refine⟨_,.inr B.mem,rfl,rfl,?_⟩;simp only[Qr,Qf,setObj];exact⟨_,M',B,rfl,rfl,rfl,rfl,Kz z ds _ h tmps w⟩
  |_=>exact h.elim
structure Q4(P:Program)(g:FuncId)(N:Nat)(cc:C)(rl:List RV):Prop where
 ok:∃fd mu dets,P.funcs[g]?=some fd/\fd.body=some (fd.body.getD .skip)/\clean P mu fd.ntmps dets (fd.body.getD .skip)=cc/\fd.ntmps=N/\fd.results.toList.mapM (H1 P)=some rl/\(fd.name != "runtime.NumGoroutine")=true
def Q4.mk'{g:FuncId}{N:Nat}{cc:C}{rl:List RV}{fd:Func}(mu dets:List Nat)(z:P.funcs[g]?=some fd)(b:fd.body.isSome=true)(w:clean P mu fd.ntmps dets (fd.body.getD .skip)=cc)(e:fd.ntmps=N)
  (E:fd.results.toList.mapM (H1 P)=some rl) (B:(fd.name != "runtime.NumGoroutine")=true):Q4 P g N cc rl:=
 ⟨fd,mu,dets,z,by cases h:fd.body with|none=>rw[h]at b;cases b|some c=>rfl,w,e,E,B⟩
def Q4.o{g:FuncId}{N:Nat}{cc:C}{rl:List RV}{fd:Func}(mu dets:List Nat)(E:P.funcs[g]?=some fd)(h:(fd.body.isSome,clean P mu fd.ntmps dets (fd.body.getD .skip),fd.ntmps,fd.results.toList.mapM (H1 P),(fd.name != "runtime.NumGoroutine"))=(true,cc,N,some rl,true)):Q4 P g N cc rl:=by
 obtain⟨b,e,w,z,B⟩:=(by simpa only[Prod.mk.injEq]using h:_/\_/\_/\_/\_);exact .mk' mu dets E b e w z B
def Q4.any{g:FuncId}{N:Nat}{cc:C}{rl:List RV}(k:Q4 P g N cc rl):(P.funcs[g]?.any λ fd=>fd.body.isSome&&fd.name != "runtime.NumGoroutine")=true:=by
 obtain⟨fd,mu,dets,e,b,-,-,-,h⟩:=k.ok;rw[e,Option.any_some,h,b];rfl
def Qb.of{g:FuncId}{N:Nat}{cc:C}{rl:List RV}(k:Q4 P g N cc rl)(I:P.follows .mixedOrders=true){args:List Value}(L:args.length<=N){U:Qa T}{Q:Value->Qa T->Prop}
  (h:WA S g none cc (λ f ds U=>DC rl Q f ds U) (λ _ _ _ _=>False) (λ f ds U=>DC rl Q f ds U) (fm args) [] U):Qb S g args.toArray Q U:=by
 obtain⟨fd,mu,dets,H,F,G,rfl,B,-⟩:=k.ok;refine Qb.of_body H F ?_
 have z:FR fd.ntmps { tmps:=args.toArray++Array.replicate (fd.ntmps-args.toArray.size) undef,defers:=[] } (fm args) []:=by
  refine⟨rfl,S3,λ t=>?_⟩;simp only[fm,Array.getD_eq_getD_getElem?,getD_eq_getElem?_getD,Array.getElem?_append,size_toArray,getElem?_toArray];split
  .rfl
  .rename_i hlt;rw[getElem?_eq_none O1,Array.getElem?_replicate];split <;> rfl
 subst G;refine Zv.mono (GH I _ z h) λ e a U w=>?_;obtain⟨K,E,b,w⟩:=w;cases e with
 |normal=>have:=Kz B _ _ w a.tmps b.get;simpa only[Dt,b.ds]using this
 |exit i=>exact w.elim
 |ret=>have:=Kz B _ _ w a.tmps b.get;simpa only[Dt,b.ds]using this
abbrev St.xz(d a b t:Nat):St:=.d d (.raw { dst:=none,op:=(.call { callee:=.builtin .append,args:=#[.tmp a,.tmp b],argTypes:=#[t,t] }),type:=t,pos:= "",after:=#[],guard:=none })
abbrev St.xo(d k t:Nat):St:=.d d (.off k (.tmp t))
abbrev St.xl(d t:Nat):St:=.d d (.ld (.tmp t))
abbrev St.xi(d n a b:Nat):St:=.d d (.idx n (.tmp a) (.tmp b))
abbrev St.xn(d t:Nat):St:=.d d (.len (.tmp t))
abbrev St.xc(d:Nat)(o:BinOp)(a b:Nat):St:=.d d (.cmp o (.tmp a) (.tmp b))
abbrev St.xk(d:Nat)(o:BinOp)(a:Nat)(n:Int):St:=.d d (.cmp o (.tmp a) (.ci n))
abbrev St.xa(d t:Nat):St:=.d d (.add (.tmp t) (.ci 1))
abbrev St.xe(d t i:Nat):St:=.d d (.ext (.tmp t) i)
abbrev St.xd(d n t:Nat):St:=.d d (.ldn n (.tmp t))
abbrev St.xt(d t:Nat):St:=.d d (.not (.tmp t))
abbrev St.xv(d:Nat)(n:Int):St:=.d d (.mv (.ci n))
abbrev St.xb(d:Nat)(b:Bool):St:=.d d (.mv (.cb b))
abbrev St.xs(d:Nat):St:=.d d (.mv .cn)
abbrev St.xp(d a b:Nat):St:=.d d (.pick (.tmp a) (.tmp b) (.cb false))
abbrev St.xq(d a b:Nat):St:=.d d (.pick (.tmp a) (.cb true) (.tmp b))
abbrev St.yo(d g:Nat)(p:Bool)(k t:Nat):St:=.u d g p (.off k (.tmp t))
abbrev St.yl(d g:Nat)(p:Bool)(t:Nat):St:=.u d g p (.ld (.tmp t))
abbrev St.yi(d g:Nat)(p:Bool)(n a b:Nat):St:=.u d g p (.idx n (.tmp a) (.tmp b))
abbrev St.yn(d g:Nat)(p:Bool)(t:Nat):St:=.u d g p (.len (.tmp t))
abbrev St.ym(d g:Nat)(p:Bool)(t:Nat):St:=.u d g p (.mv (.tmp t))
abbrev St.yk(d g:Nat)(p:Bool)(o:BinOp)(a:Nat)(n:Int):St:=.u d g p (.cmp o (.tmp a) (.ci n))
end Go.TM
namespace Go.TM
variable{T:Type}{P:Program}{S:Sys P T}
def Z0(U:Qa T)(a:Option Addr)(len:Nat)(l:List Int):Prop:=l.length=len/\∀i x,l[i]?=some x->∃b,a=some b/\b.spot=none/\U.sees (b.add (i*1)) (.int .i64 x)
def Qy(U:Qa T)(a:Option Addr)(len n:Nat){α:Type}(l:List α)(R:α->List Value->Prop):Prop:=
 l.length=len/\∀i x,l[i]?=some x->∃b vs,a=some b/\b.spot=none/\R x vs/\vs.length=n/\Z6 U (b.add (i*n)) vs
def Z0.le{U U':Qa T}{a:Option Addr}{len:Nat}{l:List Int}(h:Z0 U a len l)(b:U.le U'):Z0 U' a len l:=
 ⟨h.1,λ i x w=>let ⟨ad,e,hs,hv⟩:=h.2 i x w;⟨ad,e,hs,hv.le b⟩⟩
def Qy.le{U U':Qa T}{a:Option Addr}{len n:Nat}{α:Type}{l:List α}{R R':α->List Value->Prop}(h:Qy U a len n l R)(w:U.le U')(b:∀x vs,R x vs->R' x vs):Qy U' a len n l R':=
 ⟨h.1,λ i x z=>let ⟨ad,vs,e,hs,hr,hn,hv⟩:=h.2 i x z;⟨ad,vs,e,hs,b _ _ hr,hn,hv.le w⟩⟩
def Z0.at{U:Qa T}{a:Option Addr}{len:Nat}{l:List Int}(h:Z0 U a len l){i:Nat}(w:i<len):∃b x,l[i]?=some x/\a=some b/\b.spot=none/\U.sees (b.add (i*1)) (.int .i64 x):=by
 have z:i<l.length:=by rw[h.1];exact w
 obtain⟨b,e,B,E⟩:=h.2 i l[i] S1;exact⟨b,l[i],S1,e,B,E⟩
def Qy.at{U:Qa T}{a:Option Addr}{len n:Nat}{α:Type}{l:List α}{R:α->List Value->Prop}(h:Qy U a len n l R){i:Nat}(w:i<len) :
  ∃b x vs,l[i]?=some x/\a=some b/\b.spot=none/\R x vs/\vs.length=n/\Z6 U (b.add (i*n)) vs:=by
 have z:i<l.length:=by rw[h.1];exact w
 obtain⟨b,vs,e,F,E,B,G⟩:=h.2 i l[i] S1;exact⟨b,l[i],vs,S1,e,F,E,B,G⟩
def Z6.cell{U:Qa T}{a:Addr}{vs:List Value}(h:Z6 U a vs){i:Nat}{v:Value}(b:vs[i]?=some v):U.sees (a.add i) v:=h i v b
def Z5{U:Qa T}{M':List Qw}(h:M'.Sublist U.M):Qx U { U with M:=M' }:=by
 refine⟨rfl,λ w ok=>⟨⟨ok.imm,λ r e=>ok.held r (h.subset e),ok.apart.sublist h,λ r e=>ok.sep r (h.subset e)⟩,λ l b=>?_,λ l b=>?_⟩⟩
 .rw[Q8]at b ⊢;obtain⟨r,e,b⟩:=b;exact⟨r,h.subset e,b⟩
 .rw[Qz]at b ⊢;exact b.imp (λ⟨r,e,b⟩=>⟨r,h.subset e,b⟩) id
def MF{U U':Qa T}{b:Nat}{o:Obj}{M₀:List Qw}(F:WN U')(w:U'.M=.obj b o::M₀)(h:∀x e,U.I x=some e->U'.I x=some e)(E:U.M=M₀)(G:U'.tok=U.tok) :
  ∃U'',Qx U' U''/\U.le U''/\U''.I b=some o:=by
 refine⟨{ U' with I:=JF U'.I b o,M:=M₀ },Wi (by rw[w]),⟨λ x e B=>?_,E.symm,G⟩,by simp[JF]⟩;have z:U'.I b=none:=F (.obj b o) (by rw[w];simp);show JF U'.I b o x=_;unfold JF;rw[if_neg]
 .exact h x e B
 .rintro rfl;rw[h _ _ B]at z;cases z
structure Qa.lg(U U':Qa T):Prop where
 imm:∀b o,U.I b=some o->U'.I b=some o
 own:∃A,U'.M=A++U.M
 tok:U'.tok=U.tok
def Qa.le.lg{U U':Qa T}(h:U.le U'):U.lg U':=⟨h.imm,⟨[],h.own⟩,h.tok⟩
def Qa.lg.trans{a b c:Qa T}(h:a.lg b)(k:b.lg c):a.lg c:=
 ⟨λ x o e=>k.imm x o (h.imm x o e),let ⟨A,e⟩:=h.own;let ⟨B,e'⟩:=k.own;⟨B++A,by rw[e',e,append_assoc]⟩,k.tok.trans h.tok⟩
def Z2{U:Qa T}(b:Nat)(o:Obj):U.lg (U.put b o):=⟨λ _ _ h=>h,⟨[.obj b o],rfl⟩,rfl⟩
def Qa.lg.shift{U U':Qa T}(h:U.lg U'):∃U'',Qx U' U''/\U.le U''/\U''.I=U'.I:=by
 obtain⟨A,e⟩:=h.own;exact⟨_,Z5 (M':=U.M) (by rw[e];exact sublist_append_right ..),⟨h.imm,rfl,h.tok⟩,rfl⟩
def Qb.go{f:FuncId}{args:Array Value}{U:Qa T}{c:Value}{K:Value->Qa T->Prop}(h:Qb S f args (λ v U'=>v=c/\U'=U) U)(k:K c U):Qb S f args K U:=h.mono λ v U'⟨a,b⟩=>by rw[a,b];exact k
def Qb.pure'{f:FuncId}{args:Array Value}{U:Qa T}{Q:Value->Prop}(h:Qb S f args (λ v U'=>Q v/\U.lg U') U):Qb S f args (λ v U'=>Q v/\U'=U) U:=
 h.post λ _ _⟨q,b⟩=>let ⟨_,h1,h2,_⟩:=b.shift;⟨U,h1.trans (Fe h2),q,rfl⟩
def Qa.sees.lg{U U':Qa T}{a:Addr}{v:Value}(h:U.sees a v)(b:U.lg U'):U'.sees a v:=by
 obtain⟨A,e⟩:=b.own;obtain⟨w,⟨c,t,fr,z,B⟩|⟨t,n,E⟩⟩:=h
 .exact⟨w,.inl ⟨c,t,fr,z.imp (b.imm _ _) (λ h=>by rw[e];exact mem_append_right _ h),B⟩⟩
 .exact⟨w,.inr ⟨t,n,by rw[e];exact mem_append_right _ E⟩⟩
def Z6.lg{U U':Qa T}{a:Addr}{vs:List Value}(h:Z6 U a vs)(b:U.lg U'):Z6 U' a vs:=λ i v e=>(h i v e).lg b
def Zf.lg{U U':Qa T}{b:Nat}{c:Array Value}(h:Zf U b c)(e:U.lg U'):Zf U' b c:=let ⟨t,fr,h⟩:=h;⟨t,fr,e.imm _ _ h⟩
def Z0.lg{U U':Qa T}{a:Option Addr}{len:Nat}{l:List Int}(h:Z0 U a len l)(b:U.lg U'):Z0 U' a len l:=
 ⟨h.1,λ i x w=>let ⟨ad,e,hs,hv⟩:=h.2 i x w;⟨ad,e,hs,hv.lg b⟩⟩
def Qy.lg{U U':Qa T}{a:Option Addr}{len n:Nat}{α:Type}{l:List α}{R R':α->List Value->Prop}(h:Qy U a len n l R)(w:U.lg U')(b:∀x vs,R x vs->R' x vs):Qy U' a len n l R':=
 ⟨h.1,λ i x z=>let ⟨ad,vs,e,hs,hr,hn,hv⟩:=h.2 i x z;⟨ad,vs,e,hs,b _ _ hr,hn,hv.lg w⟩⟩
end Go.TM
namespace Go.TM
variable{T:Type}{P:Program}{S:Sys P T}{f:Fm}{K:Value->Qa T->Prop}{U:Qa T}
def rq{s:Sem Value}(h:Qr P s (λ v U'=>∃b,Qx U' b/\K v b) U):Qr P (do pure (.value (<- s)):Sem Next) (ZI S λ v U'=>∃b,Qx U' b/\K v b) U:=by
 rw[Qf];exact h
def ru{s:Sem Unit}(h:Qr P s (λ _ U'=>∃b,Qx U' b/\K undef b) U):Qr P (do s;pure .skip:Sem Next) (ZI S λ v U'=>∃b,Qx U' b/\K v b) U:=by
 rw[Qf];exact h
def uh{m:Nat}{t e:TypeId}{a:Option Addr}{n c w c0:Nat}(b:P.underlying t=some (.slice e)){Q:Bool->Qa T->Prop}(h:Q a.isNone U):Qr P (Op.equalIn (m+1) t (.slice a n c) (.slice none w c0)) Q U:=by
 rw[Op.equalIn];simp only[Qf,Zk b];cases a <;> exact h
def Y3{t e E F:TypeId}{x:Operand}{a:Option Addr}{n c b c0:Nat}(z:P.underlying t=some (.slice e))(B:Zo f x=.slice a n c)(h:K (.bool a.isNone) U) :
  OX S (.raw { dst:=none,op:=.binOp .eql t x (.const (.slice none b c0)) E,type:=F,pos := "", after:=#[],guard:=none }) f K U:=by
 intro a' w;simp only[execOp,w,B];refine rq ?_;rw[Qf];show Qr P (binOp .eql t (.slice a n c) (.slice none b c0)) _ U;show Qr P (do pure (Value.bool (<- Op.equal t (.slice a n c) (.slice none b c0))):Sem Value) _ U;rw[Qf];exact uh (m:=9999) z ⟨U,.refl _,h⟩
def W_:TypeDesc->Bool
 |.int _|.bool|.string=>true
 |_=>false
def Gp:Value->Value->Bool
 |.int _ a,.int _ b=>a==b
 |.bool a,.bool b=>a==b
 |.string a,.string b=>a==b
 |_,_=>false
def Xf:TypeDesc->Value->Bool
 |.int k,.int k' _=>decide (k=k')
 |.bool,.bool _=>true
 |.string,.string _=>true
 |_,_=>false
def Mf{d:TypeDesc}{t:TypeId}{m:Nat}(w:P.underlying t=some d)(h:W_ d=true){x y:Value}(b:Xf d x=true)(e:Xf d y=true)(Q:Bool->Qa T->Prop)(U:Qa T) :
  Qr P (Op.equalIn (m+1) t x y) Q U=Q (Gp x y) U:=by
 rw[Op.equalIn];simp only[Qf,Zk w];cases d <;> simp[W_]at h <;> cases x <;> simp[Xf]at b <;> cases y <;> simp[Xf]at e
 .rfl
 .subst b;subst e;simp only[if_true];rfl
 .rfl
def HX(P:Program):List Field->Nat->Bool
 |[],_=>true
 |fd::r,j=>fd.name != "_"&&decide (fd.offset=j)&&(match P.underlying fd.type with|some d=>W_ d|none=>false)&&HX P r (j+1)
def JS(P:Program):List Field->List Value->Bool
 |[],[]=>true
 |fd::r,v::vs=>(match P.underlying fd.type with|some d=>Xf d v|none=>false)&&JS P r vs
 |_,_=>false
def ZG:List Value->List Value->Bool
 |[],[]=>true
 |x::xs,y::ys=>Gp x y&&ZG xs ys
 |_,_=>false
def GY{t:TypeId}{d:TypeDesc}{cs:Array Value}{j:Nat}{v:Value}(e:P.underlying t=some d)(b:W_ d=true)(h:cs[j]?=some v)(Q:Value->Qa T->Prop)(U:Qa T) :
  Qr P (part t cs j) Q U=Q v U:=by
 have:TypeDesc.agg d=false:=by cases d <;> first|rfl|simp[W_]at b
 simp only[part,Qf,HV e,this,Bool.false_eq_true,if_false,h];rfl
def K7{α β:Type}{x:α}{l:List α}{b:β}{g:α->β->Sem (ForInStep β)}{Q:β->Qa T->Prop} :
  Qr P (forIn (x::l) b g) Q U=Qr P (g x b) (λ r U=>match r with|.done b=>Q b U|.yield b=>Qr P (forIn l b g) Q U) U:=by
 rw[forIn_cons,Qf];congr 1;funext r U;cases r <;> rfl
def F2{m:Nat}{xs ys:Array Value}{Q:Option Bool×PUnit->Qa T->Prop}:∀(F:List Field)(j:Nat)(vs ws:List Value),HX P F j=true->JS P F vs=true->JS P F ws=true ->
  (∀i v,vs[i]?=some v->xs[j+i]?=some v)->(∀i v,ws[i]?=some v->ys[j+i]?=some v)->Q (if ZG vs ws then none else some false,()) U ->
  Qr P (forIn F ((none,()):Option Bool×PUnit) λ fd _=>
   if fd.name ≠ "_" then do
    let a <- part fd.type xs fd.offset
    let b <- part fd.type ys fd.offset
    let c <- Op.equalIn (m+1) fd.type a b
    if(!c)=true then pure (ForInStep.done (some false,()))else pure (ForInStep.yield (none,()))
   else pure (ForInStep.yield (none,()))) Q U
 |[],j,vs,ws,_,e,z,_,_,h=>by
  cases vs <;> cases ws <;> simp[JS]at e z;exact h
 |fd::r,j,vs,ws,L,e,z,M,N,h=>by
  cases vs with
  |nil=>simp[JS]at e
  |cons v vs=>
  cases ws with
  |nil=>simp[JS]at z
  |cons w ws=>
  simp only[HX,Bool.and_eq_true,decide_eq_true_eq]at L;obtain⟨⟨⟨S,V⟩,B⟩,W⟩:=L;simp only[JS,Bool.and_eq_true]at e z;cases E:P.underlying fd.type with
  |none=>rw[E]at B;cases B
  |some d=>
   rw[E]at B e z;rw[K7,if_pos (by simpa using S)];simp only[Qf,V];have H:xs[j]?=some v:=by simpa using M 0 v rfl
   have I:ys[j]?=some w:=by simpa using N 0 w rfl
   rw[GY E B H,GY E B I,Mf E B e.1 z.1];cases K:Gp v w with
   |false=>simpa[K,ZG,Qk]using h
   |true=>
    simp only[Bool.not_true,Bool.false_eq_true,if_false,Qk];refine F2 r (j+1) vs ws W e.2 z.2 (λ i v G=>?_) (λ i v G=>?_) (by simpa[K,ZG]using h)
    .have:=M (i+1) v G;rwa [show j+(i+1)=j+1+i by omega]at this
    .have:=N (i+1) v G;rwa [show j+(i+1)=j+1+i by omega]at this
def S7{t:TypeId}{b:Array Field}(G:P.underlying t=some (.struct b))(w:P.stoodInHeld t=false)(F:HX P b.toList 0=true){vs ws:List Value}(H:JS P b.toList vs=true)(I:JS P b.toList ws=true)
  {Q:Bool->Qa T->Prop} (h:Q (ZG vs ws) U):Qr P (Op.equal t (.agg vs.toArray) (.agg ws.toArray)) Q U:=by
 have z:Op.equal t (.agg vs.toArray) (.agg ws.toArray)=Op.equalIn (9998+1+1) t (.agg vs.toArray) (.agg ws.toArray):=rfl;rw[z,Op.equalIn];simp only[Qf,Zk G,program,Qr,w,Bool.false_eq_true,if_false];obtain⟨B⟩:=b;rw[forIn_toArray];refine F2 B 0 vs ws F H I (λ i v e=>by simpa using e) (λ i v e=>by simpa using e) ?_;cases E:ZG vs ws <;> simpa[E,Qk]using h
def S8{op:BinOp}{t:TypeId}{x y:Operand}{vs ws:Array Value}(b:P.eqGuardType P.depth t=false){Q:Unit->Qa T->Prop}(h:Q () U):Qr P (eqGuard op t x y (.agg vs) (.agg ws)) Q U:=by
 unfold eqGuard
 have key (u:Unsupported):Qr P (do
     if !(<- program).eqGuardType (<- program).depth t then return
     if <- Op.eqGuardIn Op.maxDepth t (.agg vs) (.agg ws)then unsupported u:Sem Unit) Q U:=by
  simp only[Qf,program,Qr,b,Bool.not_false,if_true,Qk];exact h
 cases op <;> first|exact key _|exact h
structure GK(P:Program)(t:TypeId)(fs:Array Field):Prop where
 u:P.underlying t=some (.struct fs)
 s:P.stoodInHeld t=false
 f:HX P fs.toList 0=true
 g:P.eqGuardType P.depth t=false
def uK{t F G:TypeId}{b:Array Field}(k:GK P t b){x y:Operand}{vs ws:List Value}(B:Zo f x=.agg vs.toArray)(E:Zo f y=.agg ws.toArray)(w:JS P b.toList vs=true)(z:JS P b.toList ws=true)(h:K (.bool (ZG vs ws)) U) :
  OX S (.raw { dst:=none,op:=.binOp .eql t x y F,type:=G,pos := "", after:=#[],guard:=none }) f K U:=by
 intro a' e;simp only[execOp,e,B,E];refine rq ?_;rw[Qf];refine S8 k.g ?_;simp only[binOp,Qf];exact S7 k.u k.s k.f w z ⟨U,.refl _,h⟩
def uL{t F G:TypeId}{b:Array Field}(k:GK P t b){x y:Operand}{vs ws:List Value}(B:Zo f x=.agg vs.toArray)(E:Zo f y=.agg ws.toArray)(w:JS P b.toList vs=true)(z:JS P b.toList ws=true)(h:K (.bool (!ZG vs ws)) U) :
  OX S (.raw { dst:=none,op:=.binOp .neq t x y F,type:=G,pos := "", after:=#[],guard:=none }) f K U:=by
 intro a' e;simp only[execOp,e,B,E];refine rq ?_;rw[Qf];refine S8 k.g ?_;simp only[binOp,Qf];exact S7 k.u k.s k.f w z ⟨U,.refl _,h⟩
def O7{e:Array TypeId}{F:TypeId}{x y:Operand}{k:IntKind}{a b:Int}(B:Zo f x=.int k a)(E:Zo f y=.int k b)(h:K (.int k (min a b)) U) :
  OX S (.raw { dst:=none,op:=.call { callee:=.builtin .min,args:=#[x,y],argTypes:=e },type:=F,pos := "", after:=#[],guard:=none }) f K U:=by
 intro a' w;have z:(#[x,y]:Array Operand).map a'.eval=#[.int k a,.int k b]:=by simp[w,B,E]
 simp only[execOp,resolve,z,Qf,Qk,invoke,builtin,Builtin.min_,List.foldlM,Builtin.min2];refine⟨U,.refl _,?_⟩;have:(if b<a then b else a)=min a b:=by rw[Int.min_def];split <;> split <;> omega
 rw[this];exact h
def Qs{κ:Type}(enc:κ->Value):List (κ×Value)->Nat->List MapEntry
 |[],_=>[]
 |p::l,i=>⟨enc p.1,p.2,i⟩::Qs enc l (i+1)
def Qt{κ:Type}(enc:κ->Value)(l:List (κ×Value)):Obj:=.map (Qs enc l 0).toArray l.length
def QM{κ:Type}[DecidableEq κ](k:κ):List (κ×Value)->Nat->Option (Nat×Value)
 |[],_=>none
 |p::l,i=>if k=p.1 then some (i,p.2)else QM k l (i+1)
def lk{κ:Type}[DecidableEq κ](k:κ)(l:List (κ×Value)):Option Value:=(QM k l 0).map (·.2)
def ZC{κ:Type}[DecidableEq κ](k:κ)(v:Value):List (κ×Value)->List (κ×Value)
 |[]=>[(k,v)]
 |p::l=>if k=p.1 then(p.1,v)::l else p::ZC k v l
structure WK(T:Type)(P:Program)(kt:TypeId){κ:Type}[DecidableEq κ](enc:κ->Value):Prop where
 chk:∀(e:Bool)(k:κ){Q:Unit->Qa T->Prop}{U:Qa T},Q () U->Qr P (Instr.checkKey e 10000 kt (enc k)) Q U
 find:∀(k:κ)(l:List (κ×Value)){Q:Option (Nat×Value)->Qa T->Prop}{U:Qa T},Q (QM k l 0) U->Qr P (Instr.findKey kt (enc k) (Qs enc l 0)) Q U
 bits:∀k,Instr.sameBits 10000 (enc k) (enc k)=true
def Ll{κ:Type}[DecidableEq κ]{enc:κ->Value}{d:TypeDesc}(h:∀k k',Instr.sameNow d (enc k) (enc k')=some (decide (k=k')))(k:κ):∀(l:List (κ×Value))(i j:Nat),Instr.findNow d (enc k) (Qs enc l j) i=some (QM k l i)
 |[],i,j=>rfl
 |p::l,i,j=>by
  simp only[Qs,Instr.findNow,h,QM];by_cases e:k=p.1
  .simp[e]
  .simp only[e,decide_false,if_false];exact Ll h k l (i+1) (j+1)
def I5{κ:Type}{enc:κ->Value}{d:TypeDesc}(h:∀k k',Instr.sameNow d (enc k) (enc k')=none)(k:κ)(p:κ×Value)(l:List (κ×Value))(i j:Nat):Instr.findNow d (enc k) (Qs enc (p::l) j) i=none:=by
 simp only[Qs,Instr.findNow,h]
def TD{κ:Type}[DecidableEq κ]{enc:κ->Value}{w:TypeId}(h:∀k k'{Q:Bool->Qa T->Prop}{U:Qa T},Q (decide (k=k')) U->Qr P (Op.equal w (enc k) (enc k')) Q U)(k:κ) :
  ∀(l:List (κ×Value))(i j:Nat){Q:Option (Nat×Value)->Qa T->Prop}{U:Qa T},Q (QM k l i) U->Qr P (Instr.findAsking w (enc k) (Qs enc l j) i) Q U
 |[],i,j,Q,U,b=>b
 |p::l,i,j,Q,U,b=>by
  simp only[Qs,Instr.findAsking,Qf];refine h k p.1 ?_;by_cases e:k=p.1
  .simpa[e,QM,Qk]using b
  .simp only[e,decide_false,Bool.false_eq_true,if_false];exact TD h k l (i+1) (j+1) (by simpa[QM,e]using b)
def WK.simple{b:TypeId}{d:TypeDesc}{κ:Type}[DecidableEq κ]{enc:κ->Value}(w:P.underlying b=some d)(B:W_ d=true)(E:∀k k',Instr.sameNow d (enc k) (enc k')=some (decide (k=k')))(z:∀k,Instr.sameBits 10000 (enc k) (enc k)=true):WK T P b enc:=by
 refine⟨λ e k Q U h=>?_,λ k l Q U h=>?_,z⟩
 .have:∀m,Qr P (Instr.checkKey e (m+1) b (enc k)) Q U:=λ m=>by
   rw[Instr.checkKey];simp only[Qf,Zk w];cases d <;> simp[W_]at B <;> exact h
  exact this 9999
 .unfold Instr.findKey;simp only[Qf,Zk w,Ll E k l 0 0];exact h
def Mw{m:Nat}{e:Bool}{xs:Array Value}{Q:PUnit->Qa T->Prop}:∀(E:List Field)(j:Nat)(vs:List Value),HX P E j=true->JS P E vs=true->(∀i v,vs[i]?=some v->xs[j+i]?=some v)->Q () U ->
  Qr P (forIn E PUnit.unit λ fd _=>
   if fd.name ≠ "_" then do
    let a <- part fd.type xs fd.offset
    Instr.checkKey e (m+1) fd.type a
    pure (ForInStep.yield PUnit.unit)
   else pure (ForInStep.yield PUnit.unit)) Q U
 |[],_,_,_,_,_,h=>h
 |fd::r,j,vs,G,B,H,h=>by
  cases vs with
  |nil=>simp[JS]at B
  |cons v vs=>
  simp only[HX,Bool.and_eq_true,decide_eq_true_eq]at G;obtain⟨⟨⟨I,K⟩,b⟩,L⟩:=G;simp only[JS,Bool.and_eq_true]at B;cases z:P.underlying fd.type with
  |none=>rw[z]at b;cases b
  |some d=>
   rw[z]at b B;rw[K7,if_pos (by simpa using I)];have F:xs[j]?=some v:=by simpa using H 0 v rfl
   simp only[Qf,K];rw[GY z b F]
   have w:∀Q:Unit->Qa T->Prop,Qr P (Instr.checkKey e (m+1) fd.type v) Q U=Q () U:=λ Q=>by
    rw[Instr.checkKey];simp only[Qf,Zk z];cases d <;> simp[W_]at b <;> rfl
   rw[w];simp only[Qk];refine Mw r (j+1) vs L B.2 (λ i v M=>?_) h;have:=H (i+1) v M;rwa [show j+(i+1)=j+1+i by omega]at this
def WK.struct{B:TypeId}{z:Array Field}{κ:Type}[DecidableEq κ]{enc:κ->List Value}(w:GK P B z)(b:∀k,JS P z.toList (enc k)=true)(G:∀k k',ZG (enc k) (enc k')=decide (k=k'))(F:∀k,Instr.sameBits 10000 (.agg (enc k).toArray) (.agg (enc k).toArray)=true) :
  WK T P B (λ k=>.agg (enc k).toArray):=by
 refine⟨λ e k Q U h=>?_,λ k l Q U h=>?_,F⟩
 .have:∀m,Qr P (Instr.checkKey e (m+1+1) B (.agg (enc k).toArray)) Q U:=λ m=>by
   rw[Instr.checkKey];simp only[Qf,Zk w.u];obtain⟨E⟩:=z;rw[forIn_toArray];exact Mw E 0 (enc k) w.f (b k) (λ i v H=>by simpa using H) h
  exact this 9998
 .unfold Instr.findKey;simp only[Qf,Zk w.u];cases l with
  |nil=>exact h
  |cons p l=>
   rw[I5 (enc:=λ k=>Value.agg (enc k).toArray) (λ _ _=>rfl)];exact TD (λ k k' Q U I=>S7 w.u w.s w.f (b k) (b k') (by rw[G];exact I)) k (p::l) 0 0 h
def PH{κ:Type}(enc:κ->Value){t w:TypeId}(h:∀b,U.free b->K (.map (some b)) (U.put b (Qt enc []))) :
  OX S (.raw { dst:=none,op:=.makeMap t none,type:=w,pos := "", after:=#[],guard:=none }) f K U:=by
 intro a' z;simp only[execOp];refine rq ?_;simp only[Instr.makeMap,Qf,newObj,Qr,Qk,Option.map_none];exact λ b e=>⟨_,.refl _,h b e⟩
def Mh{κ:Type}[DecidableEq κ]{enc:κ->Value}{t E F:TypeId}{z:Value}{b:Nat}{l:List (κ×Value)}{k:κ}{ok:Bool}(B:WK T P E enc)(I:P.underlying t=some (.map E F))(K:Xq P F=some z)
  (H:U.has b (Qt enc l)) {Q:Value->Qa T->Prop} (h:Q (if ok then .tuple #[(lk k l).getD z,.bool (lk k l).isSome]else(lk k l).getD z) U):Qr P (Instr.lookup t (.map (some b)) (enc k) ok) Q U:=by
 obtain⟨L,G,w⟩:=PI K;unfold Instr.lookup;simp only[Qf,Zk I,getObj];refine⟨_,H,rfl,rfl,?_⟩;simp only[Qr,Qt,Qk,Qf];refine B.chk _ _ ?_;refine B.find k l ?_;unfold lk at h;cases e:QM k l 0 with
 |none=>simp only[e,Option.map_none,Option.getD_none,Option.isSome_none]at h;simp only[Qf,XM G w,Qk];exact h
 |some p=>simp only[e,Option.map_some,Option.getD_some,Option.isSome_some]at h;simp only[Qk];exact h
def TG{κ:Type}[DecidableEq κ]{enc:κ->Value}{t e w M:TypeId}{z:Value}{b:Nat}{l:List (κ×Value)}{k:κ}{x y:Operand}(E:WK T P e enc)(G:P.underlying t=some (.map e w))(L:Xq P w=some z)
  (H:Zo f x=.map (some b)) (I:Zo f y=enc k) (F:U.has b (Qt enc l)) (h:K ((lk k l).getD z) U) :
  OX S (.raw { dst:=none,op:=.lookup t x y false,type:=M,pos := "", after:=#[],guard:=none }) f K U:=by
 intro a' B;simp only[execOp,B,H,I];exact rq (Mh E G L F ⟨U,.refl _,h⟩)
def Tm{κ:Type}[DecidableEq κ]{enc:κ->Value}{t e w M:TypeId}{z:Value}{b:Nat}{l:List (κ×Value)}{k:κ}{x y:Operand}(E:WK T P e enc)(G:P.underlying t=some (.map e w))(L:Xq P w=some z)
  (H:Zo f x=.map (some b)) (I:Zo f y=enc k) (F:U.has b (Qt enc l)) (h:K (.tuple #[(lk k l).getD z,.bool (lk k l).isSome]) U) :
  OX S (.raw { dst:=none,op:=.lookup t x y true,type:=M,pos := "", after:=#[],guard:=none }) f K U:=by
 intro a' B;simp only[execOp,B,H,I];exact rq (Mh E G L F ⟨U,.refl _,h⟩)
def I0{κ:Type}(enc:κ->Value):∀(l:List (κ×Value))(i:Nat),(Qs enc l i).length=l.length
 |[],_=>rfl
 |_::l,i=>by simp[Qs,I0 enc l]
def OZ{κ:Type}(enc:κ->Value):∀(l l':List (κ×Value))(i:Nat),Qs enc (l++l') i=Qs enc l i++Qs enc l' (i+l.length)
 |[],l',i=>by simp[Qs]
 |p::l,l',i=>by simp[Qs,OZ enc l l' (i+1)];congr 1;omega
def UV{κ:Type}[DecidableEq κ]{k:κ}{v:Value}:∀{l:List (κ×Value)}{i:Nat},QM k l i=none->ZC k v l=l++[(k,v)]
 |[],_,_=>rfl
 |p::l,i,h=>by
  simp only[QM]at h;split at h
  .cases h
  .rename_i e;simp only[ZC,if_neg e,cons_append,UV h]
def N7{κ:Type}[DecidableEq κ]{enc:κ->Value}{k:κ}{v:Value}:∀{l:List (κ×Value)}{i j n:Nat}{x:Value},QM k l i=some (n,x)->i<=n/\(∃e,(Qs enc l j)[n-i]?=some e/\e.key=enc k) /\
   (Qs enc l j).modify (n-i) (λ e=>{ e with key:=enc k,val:=v })=Qs enc (ZC k v l) j/\(ZC k v l).length=l.length
 |[],_,_,_,_,h=>by cases h
 |p::l,i,j,n,x,h=>by
  simp only[QM]at h;split at h
  .rename_i e;cases h;refine⟨Nat.le_refl _,?_,?_,?_⟩
   .simp[Qs,e]
   .simp[Qs,ZC,e]
   .simp[ZC,e]
  .rename_i e;obtain⟨F,⟨x,z,b⟩,B,E⟩:=N7 (enc:=enc) (v:=v) (j:=j+1) h;have w:n-i=(n-(i+1))+1:=O1
   refine⟨O1,?_,?_,by simp[ZC,e,E]⟩
   .rw[w];exact⟨x,by simpa[Qs]using z,b⟩
   .rw[w];simp only[Qs,ZC,if_neg e,modify_succ_cons,B]
def T4{κ:Type}[DecidableEq κ]{enc:κ->Value}{t H vt ty:TypeId}{b:Nat}{l:List (κ×Value)}{k:κ}{v:Value}{x y u:Operand}{M':List Qw}(E:WK T P H enc)(X:P.underlying t=some (.map H vt))
  (Z:Zo f x=.map (some b)) (hy:Zo f y=enc k) (Y:Zo f u=v) (F:J7 b (Qt enc (ZC k v l)) (Qt enc l) U.M M') (h:K undef { U with M:=M' }) :
  OX S (.raw { dst:=none,op:=.mapUpdate t x y u,type:=ty,pos := "", after:=#[],guard:=none }) f K U:=by
 intro a' V;simp only[execOp,V,Z,hy,Y];refine ru ?_;unfold Instr.mapUpdate;simp only[Qf,Zk X,getObj];refine⟨_,.inr F.mem,rfl,rfl,?_⟩;simp only[Qr,Qt,Qk,Qf];refine E.chk _ _ ?_;refine E.find k l ?_;cases e:QM k l 0 with
 |none=>
  have G:=UV (v:=v) e;simp only[setObj,Qr];refine⟨Qt enc l,M',?_,rfl,rfl,rfl,⟨_,.refl _,h⟩⟩
  have:Obj.map ((Qs enc l 0).toArray.push { key:=enc k,val:=v,born:=l.length }) (l.length+1)=Qt enc (ZC k v l):=by
   rw[G];simp only[Qt,length_append,length_cons,length_nil,OZ,Qs,Nat.zero_add];congr 1;apply Array.ext';simp
  rw[this];exact F
 |some p=>
  obtain⟨n,w⟩:=p;obtain⟨h1,⟨I,L,B⟩,N,Q⟩:=N7 (enc:=enc) (v:=v) (j:=0) e
  have W:(((Qs enc l 0).toArray[n]?).map (·.key)).getD (enc k)=enc k:=by
   have:(Qs enc l 0).toArray[n]?=some I:=by simpa using L
   rw[this];exact B
  simp only[Qf,Instr.keyThatStays,W,E.bits,if_true,Qk,setObj,Qr];refine⟨Qt enc l,M',?_,rfl,rfl,rfl,⟨_,.refl _,h⟩⟩
  have:Obj.map ((Qs enc l 0).toArray.modify n λ e=>{ e with key:=enc k,val:=v }) l.length=Qt enc (ZC k v l):=by
   simp only[Qt,Q];congr 1;apply Array.ext';have z:=N;rw[Nat.sub_zero]at z;simpa using z
  rw[this];exact F
def GT{b off:Nat}{e:TypeId}{M₀:List Qw}{Q:Qa T->Prop}:∀(vs:List Value)(i:Nat)(c:Array Value)(U:Qa T),U.M=.obj b (.cells c e (0,0))::M₀->(∀v∈vs,v.single=true)->off+i+vs.length<=c.size ->
  Q { U with M:=.obj b (.cells (JW c off vs i) e (0,0))::M₀ }->ZB ⟨b,off,none⟩ vs i Q U
 |[],i,c,U,h,_,_,w=>by
  have:U={ U with M:=.obj b (.cells c e (0,0))::M₀ }:=by rw[<- h]
  show Q U;rw[this];exact w
 |v::vs,i,c,U,h,z,B,w=>by
  simp only[length_cons]at B;refine⟨z v (mem_cons_self ..),.obj b (.cells (c.setIfInBounds (off+i) v) e (0,0))::M₀,?_,?_⟩
  .rw[h,Qp];exact .obj (a:=⟨b,off+i,none⟩) rfl (by show off+i<c.size;omega)
  .exact GT vs (i+1) _ _ rfl (λ v E=>z v (mem_cons_of_mem _ E)) S3 w
def KM{vs:List Value}{c:Array Value}(h:c.size=vs.length):JW c 0 vs 0=vs.toArray:=by
 apply Array.ext
 .rw[KB];simpa using h
 .intro i h1 h2;have b:i<vs.length:=by simpa using h2
  have:=PW vs c 0 0 i O1;rw[if_pos O1]at this;simp only[Nat.zero_add,Nat.sub_zero]at this;rw[Array.getElem?_eq_getElem h1,getElem?_eq_getElem b]at this;simpa using Option.some.inj this
def Zu{b:Nat}{c:Array Value}{t:TypeId}{vs:List Value}{Q:Qa T->Prop}(z:U.free b)(w:c.size=vs.length)(B:∀v∈vs,v.single=true)(h:∀e,U.le e->Zf e b vs.toArray->Q e) :
  ZB ⟨b,0,none⟩ vs 0 (λ U'=>∃e,Qx U' e/\Q e) (U.put b (.cells c t)):=by
 refine GT vs 0 c _ rfl B O1 ?_;rw[KM w];exact⟨_,Wi (b:=b) (M':=U.M) (Perm.refl _),h _ (P1 z) Zf.new⟩
def Acc(e:TypeId)(n:Nat)(v:Value)(cs:List Value)(M M₀:List Qw):Prop:=
 (v=.slice none 0 0/\cs=[]/\M=M₀) \/
 (∃(b:Nat)(c:Array Value)(len cap:Nat),v=.slice (some ⟨b,0,none⟩) len cap/\cs.length=len*n/\len<=cap/\c.size=cap*n/\M=.obj b (.cells c e (0,0))::M₀/\∀(i:Nat)(x:Value),cs[i]?=some x->c[i]?=some x)
def VS:Value->Bool
 |.slice none _ _=>true
 |_=>false
def Acc.nil{e:TypeId}{n:Nat}{M₀:List Qw}:Acc e n (.slice none 0 0) [] M₀ M₀:=.inl ⟨rfl,rfl,rfl⟩
def Acc.empty{e:TypeId}{n b:Nat}{M₀:List Qw}:Acc e n (.slice (some ⟨b,0,none⟩) 0 0) [] (.obj b (.cells #[] e (0,0))::M₀) M₀:=
 .inr ⟨b,#[],0,0,rfl,S1,Nat.le_refl _,S1,rfl,λ i x h=>by simp at h⟩
def ME(b:Nat):∀(r c:Nat),Builtin.growBy b r c<=max c (b+(b+768) / 4)
 |0,c=>by simp[Builtin.growBy];omega
 |r+1,c=>by
  simp only[Builtin.growBy];split
  .omega
  .have:=ME b r (c+(c+768) / 4);omega
def QG{need old:Nat}(h:old<need):Builtin.nextslicecap need old<=2*need+192:=by
 unfold Builtin.nextslicecap;split
 .omega
 .split
  .omega
  .have:=ME need 4 old;omega
def Src(U:Qa T)(a:Option Addr)(cs:List Value):Prop:=(a=none/\cs=[])\/∃b,a=some b/\Z6 U b cs
def Hk{U:Qa T}{a:Option Addr}{l c n:Nat}{cs:List Value}(h:Src U a cs)(e:cs.length=l*n){Q:Array Value->Qa T->Prop}(b:Q cs.toArray U):Qr P (Builtin.firstCells n l (.slice a l c)) Q U:=by
 rcases h with⟨rfl,rfl⟩|⟨z,rfl,w⟩
 .exact b
 .simp only[Builtin.firstCells];rw[<- e];exact w.cells b
def Vr{k:Nat}{Q:Unit->Qa T->Prop}(h:Q () U):Qr P (askRoom k) Q U:=by
 unfold askRoom;split
 .exact⟨rfl,h⟩
 .exact h
def gG{b:Nat}{c:Array Value}{e:TypeId}{M₀:List Qw}{cs:List Value}(w:U.M=.obj b (.cells c e (0,0))::M₀)(h:∀(i:Nat)(x:Value),cs[i]?=some x->c[i]?=some x):Z6 U ⟨b,0,none⟩ cs:=by
 intro i v z;rw[Qp];exact⟨rfl,.inl ⟨c,e,(0,0),.inr (by rw[w];simp),by simpa using h i v z⟩⟩
def Acc.src{e n:Nat}{v:Value}{cs:List Value}{M₀:List Qw}(h:Acc e n v cs U.M M₀):∃a l c,v=.slice a l c/\cs.length=l*n/\Src U a cs:=by
 rcases h with⟨rfl,rfl,w⟩|⟨b,c,len,cap,rfl,z,E,F,w,B⟩
 .exact⟨_,_,_,rfl,S1,.inl ⟨rfl,rfl⟩⟩
 .exact⟨_,_,_,rfl,z,.inr ⟨_,rfl,gG w B⟩⟩
def gE{t t2 e e2 n ty:Nat}{z v:Value}{B:TypeInfo}{x y:Operand}{ya:Option Addr}{yl yc:Nat}{cs new:List Value}{M₀:List Qw}
  (hu:P.underlying t=some (.slice e)) (ah:P.underlying t2=some (.slice e2)) (E:P.info? e=some B) (ag:B.size=n) (hz:B.zero=some z) (ai:z.cells.size=n) (V:B.bytes≠0/\B.bytes<=1024)
  (hx:Zo f x=v) (hy:Zo f y=.slice ya yl yc) (Z:Acc e n v cs U.M M₀) (Q:Src U ya new) (N:new.length=yl*n) (hn:0<n) (T:∀w∈new,w.single=true) (aj:cs.length+new.length<=1048576)
  (h:∀v' M',Acc e n v' (cs++new) M' M₀->VS v'=(VS v&&new.isEmpty)->K v' { U with M:=M' }) :
  OX S (.raw { dst:=none,op:=.call { callee:=.builtin .append,args:=#[x,y],argTypes:=#[t,t2] },type:=ty,pos := "", after:=#[],guard:=none }) f K U:=by
 intro a' ad;obtain⟨sa,sl,sc,I,H,af⟩:=Z.src;have hm:(#[x,y]:Array Operand).map a'.eval=#[.slice sa sl sc,.slice ya yl yc]:=by simp[ad,hx,hy,I]
 simp only[execOp,resolve,hm,Qf,Qk,invoke,builtin];show Qr P (Builtin.append_ #[t,t2] ty #[.slice sa sl sc,.slice ya yl yc]) _ U;unfold Builtin.append_;simp only[getElem?_toArray,getElem?_cons_zero,getElem?_cons_succ,Qf,Zk hu,Zk ah,Jj E,ag,Qk,Bool.false_eq_true,if_false,Builtin.lenOf,Wl E,false_or,Bool.not_false,if_true];have al:sl<=cs.length:=by rw[H];exact Nat.le_mul_of_pos_right _ hn
 have am:yl<=new.length:=by rw[N];exact Nat.le_mul_of_pos_right _ hn
 have L:(cs++new).length=(sl+yl)*n:=by rw[length_append,H,N,Nat.add_mul]
 split
 .rename_i hle;rw[Qf];refine Hk Q N ?_;rcases Z with⟨rfl,rfl,G⟩|⟨b,c,len,cap,rfl,h1,h2,Y,G,h4⟩
  .cases I;have:yl=0:=O1
   subst this;have X:new=[]:=by simpa using N
   subst X;refine⟨U,.refl _,?_⟩;have:=h (.slice none 0 0) U.M (.inl ⟨rfl,rfl,G⟩) rfl;exact this
  .cases I;simp only[Qf];refine Py _ _ _ ?_;rw[Qp]
   have F:0+sl*n+0+new.length<=c.size:=by
    have:(sl+yl)*n<=sc*n:=Nat.mul_le_mul_right n hle;rw[Nat.add_mul]at this;rw[Y,N];omega
   refine GT _ _ c U G T F ?_;refine⟨_,.refl _,h _ _ (.inr ⟨b,_,sl+yl,sc,rfl,L,hle,by rw[KB];exact Y,rfl,λ i x E=>?_⟩) rfl⟩;rw[PW _ _ _ _ _ F];simp only[getElem?_append]at E;split at E
   .rename_i ae;rw[if_neg O1];exact h4 i x E
   .rename_i hge;have ae:=(List.getElem?_eq_some_iff.1 E).1;rw[if_pos O1];rw[show i-(0+sl*n+0)=i-cs.length by omega];exact E
 .rename_i hgt;have ab:¬(((sl+yl:Nat):Int) > IntKind.i64.max/\B.bytes=0):=λ h=>V.1 h.2
  have ac:¬(Builtin.nextslicecap (sl+yl) sc*B.bytes > 2^48):=by
   have:=QG (need:=sl+yl) (old:=sc) O1;have h2:Builtin.nextslicecap (sl+yl) sc*B.bytes<=(2*(sl+yl)+192)*1024:=Nat.mul_le_mul this V.2;have aa:(2:Nat)^48=281474976710656:=D1
   rw[aa];omega
  simp only[Wl E,Qf];rw[if_neg ab];simp only[Wl E,Qf];rw[if_neg ac];simp only[choose,Qf];show ∀tt,Qr P _ _ U;intro tt;show Qr P (typeInfo e) _ U;rw[Wl E];refine Vr ?_;refine Hk af H ?_;refine Hk Q N ?_;simp only[XM E hz];refine Jl λ b' ak=>?_;have W:sl+yl<=Question.cut (.appendCap (sl+yl) sc e) tt:=by simp only[Question.cut];omega
  refine⟨_,Z5 (M':=.obj b' (.cells (cs.toArray++new.toArray++Builtin.zeroCells z.cells (Question.cut (.appendCap (sl+yl) sc e) tt-(sl+yl))) e)::M₀) ?_,?_⟩
  .show Sublist _ (.obj b' _::U.M);refine Sublist.cons_cons _ ?_;rcases Z with⟨rfl,rfl,G⟩|⟨b,c,len,cap,rfl,h1,h2,Y,G,h4⟩
   .rw[G];exact Sublist.refl _
   .rw[G];exact sublist_cons_self _ _
  .refine h _ _ (.inr ⟨b',_,sl+yl,Question.cut (.appendCap (sl+yl) sc e) tt,rfl,L,W,?_,rfl,λ i x E=>?_⟩) ?_
   .simp only[Array.size_append,size_toArray,H,N,Builtin.zeroCells,Array.size_map,Array.size_range,ai];rw[<- Nat.add_mul,<- Nat.add_mul];congr 1;omega
   .have:(cs.toArray++new.toArray)=(cs++new).toArray:=S1
    rw[this,Array.getElem?_append_left (by simpa using(List.getElem?_eq_some_iff.1 E).1)];simpa using E
   .rcases Z with⟨rfl,rfl,G⟩|⟨b,c,len,cap,rfl,h1,h2,Y,G,h4⟩
    .cases I;have:new≠[]:=by rintro rfl;simp at N;omega
     cases new with
     |nil=>exact absurd rfl this
     |cons=>rfl
    .rfl
def NY(P:Program)(t e n:Nat):Bool:=
 (match P.underlying t with|some (.slice e')=>decide (e'=e)|_=>false)&&(match P.info? e with
  |some b=>decide (b.size=n)&&(match b.zero with|some z=>decide (z.cells.size=n)|none=>false)&&decide (b.bytes≠0)&&decide (b.bytes<=1024)
  |none=>false)&&decide (0<n)
structure Xh(P:Program)(t e n:Nat):Prop where
 u:P.underlying t=some (.slice e)
 i:∃inf z,P.info? e=some inf/\inf.size=n/\inf.zero=some z/\z.cells.size=n/\inf.bytes≠0/\inf.bytes<=1024
 n:0<n
def Xh.of{t e n:Nat}(h:NY P t e n=true):Xh P t e n:=by
 unfold NY at h;simp only[Bool.and_eq_true,decide_eq_true_eq]at h;obtain⟨⟨w,B⟩,E⟩:=h;refine⟨?_,?_,E⟩
 .split at w
  .rename_i e' hu;simp only[decide_eq_true_eq]at w;subst w;exact hu
  .cases w
 .split at B
  .rename_i inf hi;simp only[Bool.and_eq_true,decide_eq_true_eq]at B;obtain⟨⟨⟨a,b⟩,c⟩,d⟩:=B;split at b
   .rename_i z hz;simp only[decide_eq_true_eq]at b;exact⟨inf,z,hi,a,hz,b,c,d⟩
   .cases b
  .cases B
def Wy{t e n ty:Nat}{v:Value}{x y:Operand}{G:Option Addr}{yl yc:Nat}{cs new:List Value}{M₀:List Qw}(k:Xh P t e n)
  (X:Zo f x=v) (Y:Zo f y=.slice G yl yc) (V:Acc e n v cs U.M M₀) (E:Src U G new) (W:new.length=yl*n) (b:∀w∈new,w.single=true) (B:cs.length+new.length<=1048576)
  (h:∀F M',Acc e n F (cs++new) M' M₀->VS F=(VS v&&new.isEmpty)->K F { U with M:=M' }) :
  OX S (.raw { dst:=none,op:=.call { callee:=.builtin .append,args:=#[x,y],argTypes:=#[t,t] },type:=ty,pos := "", after:=#[],guard:=none }) f K U:=by
 obtain⟨Z,z,H,I,L,N,Q,T⟩:=k.i;exact gE k.u k.u H I L N ⟨Q,T⟩ X Y V E W k.n b B h
def Ov(P:Program)(t:TypeId):Array Field:=match P.underlying t with|some (.struct b)=>b|_=>#[]
def Nf(P:Program)(t:TypeId):Bool:=
 (match P.underlying t with|some (.struct _)=>true|_=>false)&&!P.stoodInHeld t&&HX P (Ov P t).toList 0&&!P.eqGuardType P.depth t
def GK.of{t:TypeId}(h:Nf P t=true):GK P t (Ov P t):=by
 unfold Nf at h;simp only[Bool.and_eq_true,Bool.not_eq_true']at h;obtain⟨⟨⟨b,e⟩,w⟩,z⟩:=h;refine⟨?_,e,w,z⟩;unfold Ov;split at b
 .rename_i fs hu;rw[hu]
 .cases b
def I6{t e ty n:Nat}{z:Value}{w:TypeInfo}{x y:Operand}(Y:P.underlying t=some (.slice e))(G:P.info? e=some w)(hz:w.zero=some z)(M:z.cells=#[z])(L:w.size=1)(F:w.bytes<=64)
  (hx:Zo f x=.int .i64 n) (hy:Zo f y=.int .i64 n) (X:n<=1048576) (h:∀b,U.free b->K (.slice (some ⟨b,0,none⟩) n n) (U.put b (.cells (replicate n z).toArray e))) :
  OX S (.raw { dst:=none,op:=.makeSlice t x y,type:=ty,pos := "", after:=#[],guard:=none }) f K U:=by
 intro a' Q;simp only[execOp,Q,hx,hy];refine rq ?_;unfold Instr.makeSlice;have Z:IntKind.wrap .i64 (n:Int)=n:=G7 I1;simp only[Qf,Zk Y,asInt,asIntOf,Qk,Wl G,Z]
 have W:(w.bytes:Int)*(n:Int)<=67108864:=by
  have:=Nat.mul_le_mul F X;have e:((w.bytes*n:Nat):Int)=(w.bytes:Int)*n:=S1
  omega
 have E:(2:Int)^48=281474976710656:=D1
 have I:(((decide ((n:Int)<0)|| decide ((w.bytes:Int)*(n:Int) > 2^48))|| decide ((n:Int)<0))|| decide ((n:Int) > n))=false:=by
  rw[E];simp only[Bool.or_eq_false_iff,decide_eq_false_iff_not];omega
 simp only[I,Bool.false_eq_true,if_false];rw[Qf];refine Vr ?_;simp only[Qf,Jj G,L,Nat.mul_one,Int.toNat_natCast]
 have fin:∀c:Array Value,(n≠0->c=z.cells)->Qr P (newRow e ((Array.range n).map (c[· % c.size]!))) (λ a U'=>∃N,Qx U' N/\K (.slice (some a) n n) N) U:=by
  intro c V;refine Jl λ b T=>⟨_,.refl _,?_⟩
  have:(Array.range n).map (c[· % c.size]!)=(replicate n z).toArray:=by
   apply Array.ext
   .simp
   .intro i h1 h2;have H:n≠0:=by simp at h1;omega
    have B:=V H;rw[M]at B;subst B;simp[Nat.mod_one]
  rw[this];exact h b T
 split
 .rename_i h0;exact fin #[] λ h=>absurd h0 h
 .simp only[Qf,XM G hz];exact fin _ λ _=>rfl
def yb{t F e T:Nat}{s:ByteArray}{x:Operand}(L:P.underlying t=some .string)(z:P.underlying F=some (.slice e))(B:P.underlying e=some (.int .u8))(N:Zo f x=.string s)
  (h:∀b cap(c:Array Value)fr,U.free b->(∀(i:Nat)u,s.data[i]?=some u->c[i]?=some (.int .u8 u.toNat))->K (.slice (some ⟨b,0,none⟩) s.size cap) { U with I:=JF U.I b (.cells c e fr) }) :
  OX S (.raw { dst:=none,op:=.convert t F x,type:=T,pos := "", after:=#[],guard:=none }) f K U:=by
 intro a' G;simp only[execOp,G,N];refine rq ?_;unfold convert;simp only[Qf,Zk L,Zk z,Zk B,Conv.stringToBytes,choose];show ∀Q,Qr P _ _ U;intro Q;simp only[Qk,Qr];refine Jl λ b H=>?_;unfold markStringish;simp only[Qf,shape];refine⟨_,.inr (mem_cons_self ..),?_⟩;simp only[Obj.shapeOf,Qr,freeze];refine⟨D1,_,_,_,rfl,?_⟩;refine⟨_,Wi (b:=b) (M':=U.M) (Perm.refl _),?_⟩;refine h b _ _ _ H λ i u E=>?_;have w:=(Array.getElem?_eq_some_iff.1 E).1;rw[Array.getElem?_append_left (by simpa using w)];simp[E]
end Go.TM

