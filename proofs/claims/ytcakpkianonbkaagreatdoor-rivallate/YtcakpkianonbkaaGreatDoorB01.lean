/- Lemmas. No conditions. -/
import Derived.Test.YtcakpkianonbkaaGreatDoorB00
set_option linter.all false
open List
namespace Go
abbrev Operand.t(n:Nat):Operand:=.tmp n
abbrev Operand.ci(n:Int):Operand:=.const (.int .i64 n)
abbrev Operand.cb(b:Bool):Operand:=.const (.bool b)
abbrev Operand.cn:Operand:=.const (.slice none 0 0)
end Go
namespace Go.TM
variable{T:Type}{P:Program}{S:Sys P T}
def J5(o:Oper):Oper:={ dst:=none,op:=o.op,type:=o.type,pos := "", after:=#[],guard:=none }
def Ztp:BinOp->Bool
 |.eql|.neq|.lss|.leq|.gtr|.geq=>true
 |_=>false
def Q5l(P:Program)(o:Oper)(op:BinOp)(t:TypeId)(x y:Operand):O:=
 match P.underlying t with
 |some (.int k)=>
  if Ztp op then .cmp op x y
  else match k,op with
   |.i64,.add=>.add x y
   |.i64,.sub=>.sub x y
   |.i64,.mul=>.mul x y
   |_,_=>.ar op x y
 |some .bool=>.beq op x y
 |some .string=>(match op with|.eql=>.teq op x y|.neq=>.teq op x y|_=>.raw (J5 o))
 |_=>.raw (J5 o)
def Jw(P:Program)(t:TypeId):Option Nat:=(P.info? t).map (·.size)
def Qdy(P:Program)(t:TypeId):Option Value:=(P.info? t).bind (·.zero)
def Q9(P:Program)(mu:List Nat)(o:Oper):O:=
 match o.op with
 |.move x|.assign x=>.mv x
 |.pick c a b=>.pick c a b
 |.binOp op t x y _=>Q5l P o op t x y
 |.unOp .not _ x=>.not x
 |.call { callee:=.value c,args,.. }=>.call c args
 |.call { callee:=.builtin .len,args,argTypes }=>
  (match args,argTypes with
  |⟨[x]⟩,⟨[t]⟩=>(match P.underlying t with|some (.slice _)=>.len x|some .string=>.lenT x|some (.map _ _)=>.lenM x|_=>.raw (J5 o))
  |_,_=>.raw (J5 o))
 |.convert src dst x=>(match P.underlying src,P.underlying dst with|some (.int _),some (.int k)=>.conv k x|_,_=>.raw (J5 o))
 |.fieldAddr s x i=>(match P.underlying s with
  |some (.struct fs)=>(match fs[i]? with
   |some fd=>(match Jw P fd.type with|some (_+1)=>.off fd.offset x|_=>.raw (J5 o))
   |none=>.raw (J5 o))
  |_=>.raw (J5 o))
 |.indexAddr t x i=>(match P.underlying t with
  |some (.slice e)=>(match Jw P e with|some n=>.idx n x i|none=>.raw (J5 o))
  |some (.array len e)=>(match Jw P e with|some n=>if len<=1 then .raw (J5 o)else .aidx len n x i|none=>.raw (J5 o))
  |_=>.raw (J5 o))
 |.index t x i=>(match P.underlying t with|some .string=>.sidx x i|_=>.raw (J5 o))
 |.load t x=>(match P.underlying t with
  |some d=>if TypeDesc.agg d then(match Jw P t with|some n=>.ldn n x|none=>.raw (J5 o))else .ld x
  |none=>.raw (J5 o))
 |.store t x v=>(match Jw P t with|some n=>.st n x v|none=>.raw (J5 o))
 |.box t x=>(match o.dst with|some d=>if mu.contains d then .boxM t x else .box t x|none=>.boxM t x)
 |.alloc t=>(match Qdy P t with|some z=>.alloc t z.cells|none=>.raw (J5 o))
 |.extract x i=>.ext x i
 |.field t x i=>(match P.underlying t with
  |some (.struct fs)=>(match fs[i]? with
   |some fd=>(match P.underlying fd.type with
    |some d=>if TypeDesc.agg d then(match Jw P fd.type with|some n=>.part fd.offset n x|none=>.raw (J5 o))else .part1 fd.offset x
    |none=>.raw (J5 o))
   |none=>.raw (J5 o))
  |_=>.raw (J5 o))
 |.makeFunc fn first capt=>.mkf fn first capt
 |.nilCheck x=>.nilc x
 |.build t parts=>(match P.underlying t,Qdy P t with
  |some (.struct fs),some z=>if fs.toList.all (λ fd=>(Jw P fd.type).isSome)then
    (match parts.toList.mapM (λ p=>(fs[p.1]?).map λ fd=>(fd.offset,(Jw P fd.type).getD 0,p.2))with
    |some ps=>.build z.cells ps
    |none=>.raw (J5 o))else .raw (J5 o)
  |_,_=>.raw (J5 o))
 |.buildSlice t len parts=>(match P.underlying t with
  |some (.slice e)=>(match Jw P e,Qdy P e with
   |some n,some z=>if len*n<=2^24 then .bsl e len (if len*n=0 then #[]else(Array.range (len*n)).map (z.cells[· % z.cells.size]!)) (parts.toList.map λ p=>(p.1*n,n,p.2))else .raw (J5 o)
   |_,_=>.raw (J5 o))
  |_=>.raw (J5 o))
 |.slice t x lo hi none=>(match P.underlying t with|some (.slice e)=>(match Jw P e with|some n=>.sub3 n x lo hi|none=>.raw (J5 o))|_=>.raw (J5 o))
 |_=>.raw (J5 o)
def Qa0{t:TypeId}{n:Nat}(h:Jw P t=some n):∃i,P.info? t=some i/\i.size=n:=by
 simpa[Jw]using h
def Qcn{t:TypeId}{z:Value}(h:Qdy P t=some z):∃i,P.info? t=some i/\i.zero=some z:=by
 simpa[Qdy,Option.bind_eq_some_iff]using h
section
variable{f:Fm}{K:Value->Qa T->Prop}{U:Qa T}
def Qfv{op:BinOp}{t:TypeId}{x y:Operand}{k k':IntKind}{a b:Int}{Q:Unit->Qa T->Prop}(h:Q () U):Qr P (eqGuard op t x y (.int k a) (.int k' b)) Q U:=by
 cases op <;> exact h
def Zdx{op:BinOp}{t:TypeId}{x y:Operand}{a b:Bool}{Q:Unit->Qa T->Prop}(h:Q () U):Qr P (eqGuard op t x y (.bool a) (.bool b)) Q U:=by
 cases op <;> exact h
def Zi5{op:BinOp}{t:TypeId}{x y:Operand}{a b:ByteArray}{Q:Unit->Qa T->Prop}(h:Q () U):Qr P (eqGuard op t x y (.string a) (.string b)) Q U:=by
 cases op <;> exact h
def Zsl{op:BinOp}{t:TypeId}{x y:Operand}(h:OX S (.cmp op x y) f K U):Qr P (do eqGuard op t x y (Zl f x) (Zl f y);binOp op t (Zl f x) (Zl f y)) K U:=by
 simp only[OX]at h;cases hx:Zl f x <;> simp only[hx]at h <;> try exact h.elim
 cases hy:Zl f y <;> simp only[hy]at h <;> try exact h.elim
 obtain⟨rfl,h⟩:=h;rw[Qf];refine Qfv ?_;cases op <;> first|exact h.elim|simpa[binOp,Op.intCmp,Qi]using h
def Zsj{t:TypeId}{x y:Operand}(h:OX S (.add x y) f K U):Qr P (do eqGuard .add t x y (Zl f x) (Zl f y);binOp .add t (Zl f x) (Zl f y)) K U:=by
 simp only[OX]at h;split at h
 .rename_i a b e1 e2;rw[e1,e2,Qf];refine Qfv ?_;simpa[binOp,Op.intArith,Qi,Qdx h.1]using h.2
 .exact h.elim
def Zso{t:TypeId}{x y:Operand}(h:OX S (.sub x y) f K U):Qr P (do eqGuard .sub t x y (Zl f x) (Zl f y);binOp .sub t (Zl f x) (Zl f y)) K U:=by
 simp only[OX]at h;split at h
 .rename_i a b e1 e2;rw[e1,e2,Qf];refine Qfv ?_;simpa[binOp,Op.intArith,Qi,Qdx h.1]using h.2
 .exact h.elim
def Zsn{t:TypeId}{x y:Operand}(h:OX S (.mul x y) f K U):Qr P (do eqGuard .mul t x y (Zl f x) (Zl f y);binOp .mul t (Zl f x) (Zl f y)) K U:=by
 simp only[OX]at h;split at h
 .rename_i a b e1 e2;rw[e1,e2,Qf];refine Qfv ?_;simpa[binOp,Op.intArith,Qi,Qdx h.1]using h.2
 .exact h.elim
def Zjr{t:TypeId}(ht:P.underlying t=some .bool)(a b:Bool)(Q:Bool->Qa T->Prop)(U:Qa T):Qr P (Op.equal t (.bool a) (.bool b)) Q U=Q (a==b) U:=by
 have e:Op.equal t (.bool a) (.bool b)=Op.equalIn (9999+1) t (.bool a) (.bool b):=rfl;rw[e,Op.equalIn,Qf,Zg ht];rfl
def Zsk{op:BinOp}{t:TypeId}{x y:Operand}(ht:P.underlying t=some .bool)(h:OX S (.beq op x y) f K U):Qr P (do eqGuard op t x y (Zl f x) (Zl f y);binOp op t (Zl f x) (Zl f y)) K U:=by
 simp only[OX]at h;split at h
 .rename_i a b e1 e2;rw[e1,e2,Qf];refine Zdx ?_;cases op <;> first|exact h.elim|(simp only[binOp,Qf,Zjr ht,Qi];exact h)
 .exact h.elim
def Zob{op:BinOp}{t:TypeId}{x y:Operand}(h:OX S (.teq op x y) f K U):Qr P (do eqGuard op t x y (Zl f x) (Zl f y);binOp op t (Zl f x) (Zl f y)) K U:=by
 simp only[OX]at h;split at h
 .rename_i a b e1 e2;rw[e1,e2,Qf];refine Zi5 ?_;cases op <;> first|exact h.elim|simpa[binOp,Op.stringOp,Qi]using h
 .exact h.elim
def Ztx{op:BinOp}{t:TypeId}{x y:Operand}(h:OX S (.ar op x y) f K U):Qr P (do eqGuard op t x y (Zl f x) (Zl f y);binOp op t (Zl f x) (Zl f y)) K U:=by
 simp only[OX]at h;split at h
 .rename_i k a k' b e1 e2;rw[e1,e2,Qf];refine Qfv ?_
  cases op <;> simp only[]at h <;> first
   |exact h.elim
   |(obtain⟨rfl,hb,h⟩:=h;simpa[binOp,Op.intDiv,hb,Qi]using h)
   |(obtain⟨rfl,h⟩:=h;simpa[binOp,Op.intArith,Op.intBits,Qi]using h)
   |(obtain⟨hb,h⟩:=h;simpa[binOp,Op.shift,Int.not_lt.2 hb,Qi]using h)
 .exact h.elim
def nq'{s:Sem Value}(h:Qr P s K U):Qr P (s >>= λ v=>pure (Next.value v)) (Qak S K) U:=by rw[Qf];exact h
def Zqo{c:Operand}{args:Array Operand}{ats:Array TypeId}{ty:TypeId}{ρ:Operand->Value}(hρ:∀x,ρ x=Zl f x)(h:OX S (.call c args) f K U) :
  Qr P (do let d <- resolve ρ { callee:=.value c,args:=args,argTypes:=ats } ty;invoke d.target d.args:Sem Next) (Qak S K) U:=by
 simp only[OX]at h;have hm:args.map ρ=args.map (Zl f):=by rw[show ρ=Zl f from funext hρ]
 split at h
 .rename_i g first capt e
  obtain⟨hb,h⟩:=h;simp only[Qf,resolve,hρ,hm,e,Deferred.ofValue,Qi,invoke,callFunc,program,Qr];cases hg:P.funcs[g]? with
  |none=>simp[hg]at hb
  |some fd=>
   simp only[hg,Option.any_some,Bool.and_eq_true,bne_iff_ne,ne_eq]at hb;obtain⟨h1,h2⟩:=hb;have hnone:fd.body.isNone=false:=by cases hbd:fd.body <;> simp_all
   have hname:(fd.name== "runtime.NumGoroutine")=false:=by simpa using h2
   simp only[hname,hnone,Bool.false_eq_true,if_false,Qi,Qak];rw[J8]at h;have e:(first++Array.map (Zl f) args)++capt=(first.toList++args.toList.map (Zl f)++capt.toList).toArray:=by apply Array.ext';simp
   rw[e];exact h.sep λ v U' hs hk=>⟨U',.refl _,hk hs⟩
 .rename_i l first capt e
  rw[J8]at h;simp only[Qf,resolve,hρ,hm,e,Deferred.ofValue,Qi,invoke];have e:first++Array.map (Zl f) args=(first.toList++args.toList.map (Zl f)).toArray:=by apply Array.ext';simp
  rw[e];exact h
 .exact h.elim
def Qgm{k:IntKind}{i:Int}{y n:Nat}{code:BoundsCode}(hi:i=n)(h:n<=y){Q:Nat->Qa T->Prop}(hq:Q n U):Qr P (Instr.sliceBound (.int k i) y code) Q U:=by
 subst hi;unfold Instr.sliceBound;rw[Qf];show Qr P (if 0<=(n:Int)/\(n:Int)<=y then pure (n:Int).toNat else boundsPanic k n y code) Q U;rw[if_pos (by omega)];exact hq
def sb1{len cap:Nat}{Q:Nat×Nat×Nat->Qa T->Prop}(hq:Q (0,len,cap) U):Qr P (Instr.sliceBounds true len cap none none none) Q U:=by
 unfold Instr.sliceBounds;simp only[Qf,Qi];exact hq
def sb2{len cap l:Nat}{k:IntKind}{i:Int}(hi:i=l)(h:l<=len){Q:Nat×Nat×Nat->Qa T->Prop}(hq:Q (l,len,cap) U):Qr P (Instr.sliceBounds true len cap (some (.int k i)) none none) Q U:=by
 unfold Instr.sliceBounds;simp only[Qf,Qi];exact Qgm hi h hq
def sb3{len cap h:Nat}{k:IntKind}{i:Int}(hi:i=h)(hh:h<=cap){Q:Nat×Nat×Nat->Qa T->Prop}(hq:Q (0,h,cap) U):Qr P (Instr.sliceBounds true len cap none (some (.int k i)) none) Q U:=by
 unfold Instr.sliceBounds;simp only[Qf,Qi];exact Qgm hi hh hq
def sb4{len cap l h:Nat}{k k':IntKind}{i i':Int}(hi:i=l)(hi':i'=h)(h1:l<=h)(hh:h<=cap){Q:Nat×Nat×Nat->Qa T->Prop}(hq:Q (l,h,cap) U):Qr P (Instr.sliceBounds true len cap (some (.int k i)) (some (.int k' i')) none) Q U:=by
 unfold Instr.sliceBounds;simp only[Qf,Qi];exact Qgm hi' hh (Qgm hi h1 hq)
def Q1o{len cap l hn:Nat}{lo hi:Option Value}(hsb:Qo2 len lo hi=some ((l:Int),(hn:Int)))(h2:l<=hn)(h3:hn<=cap){Q:Nat×Nat×Nat->Qa T->Prop}(hq:Q (l,hn,cap) U) :
  Qr P (Instr.sliceBounds true len cap lo hi none) Q U:=by
 unfold Qo2 at hsb;split at hsb
 .simp only[Option.some.injEq,Prod.mk.injEq]at hsb;obtain⟨e1,e2⟩:=hsb;have e1':l=0:=by omega
  have e2':hn=len:=by omega
  subst e1';subst e2';exact sb1 hq
 .simp only[Option.some.injEq,Prod.mk.injEq]at hsb;obtain⟨e1,e2⟩:=hsb;have e2':hn=len:=by omega
  subst e2';exact sb2 e1 h2 hq
 .simp only[Option.some.injEq,Prod.mk.injEq]at hsb;obtain⟨e1,e2⟩:=hsb;have e1':l=0:=by omega
  subst e1';exact sb3 e2 h3 hq
 .simp only[Option.some.injEq,Prod.mk.injEq]at hsb;exact sb4 hsb.1 hsb.2 h2 h3 hq
 .cases hsb
def Zqq{t e:TypeId}{n:Nat}{x:Operand}{lo hi:Option Operand}(hu:P.underlying t=some (.slice e))(hs:Jw P e=some n)(h:OX S (.sub3 n x lo hi) f K U) :
  Qr P (Instr.sliceAt t (Zl f x) (lo.map (Zl f)) (hi.map (Zl f)) none) K U:=by
 obtain⟨inf,hi',hsz⟩:∃i,P.info? e=some i/\i.size=n:=by simpa[Jw]using hs
 simp only[OX]at h;split at h
 .rename_i sa len cap e1;split at h
  .rename_i li hh hsb;obtain⟨l,hn,⟨rfl,rfl,h2,h3⟩,h⟩:=h;simp only[e1,Instr.sliceAt,Instr.slice,Qf,Zg hu];refine Q1o hsb h2 h3 ?_;simp only[Jh hi',hsz,Qi];exact h
  .exact h.elim
 .exact h.elim
def Zsm{t e:TypeId}{n:Nat}{x i:Operand}(hu:P.underlying t=some (.slice e))(hs:Jw P e=some n)(h:OX S (.idx n x i) f K U):Qr P (Instr.indexAt t (Zl f x) (Zl f i)) K U:=by
 obtain⟨inf,hi',hsz⟩:∃i,P.info? e=some i/\i.size=n:=by simpa[Jw]using hs
 simp only[OX]at h;split at h
 .rename_i aa len cap k m e1 e2;obtain⟨ad,j,⟨rfl,rfl,hb⟩,h⟩:=h;have hb':(0:Int)<=(j:Int)/\(j:Int)<(len:Int):=by omega
  simp only[e1,e2,Instr.indexAt,asIntOf,Qf,Qi,Zg hu];rw[if_pos hb'];simp only[Qf,Jh hi',hsz,Qi,Int.toNat_natCast];exact h
 .exact h.elim
def Zqn{t e:TypeId}{len n:Nat}{x i:Operand}(hu:P.underlying t=some (.array len e))(hs:Jw P e=some n)(h:OX S (.aidx len n x i) f K U):Qr P (Instr.indexAt t (Zl f x) (Zl f i)) K U:=by
 obtain⟨inf,hi',hsz⟩:∃i,P.info? e=some i/\i.size=n:=by simpa[Jw]using hs
 simp only[OX]at h;split at h
 .rename_i ad k m e1 e2;obtain⟨j,⟨rfl,hb⟩,h⟩:=h;have hb':(0:Int)<=(j:Int)/\(j:Int)<(len:Int):=by omega
  simp only[e1,e2,Instr.indexAt,asIntOf,Qf,Qi,Zg hu,Instr.sureAddr];rw[if_pos hb'];simp only[Qf,Jh hi',hsz,Qi,Int.toNat_natCast];exact h
 .exact h.elim
def Zqp{t:TypeId}{x i:Operand}(hu:P.underlying t=some .string)(h:OX S (.sidx x i) f K U):Qr P (Instr.index t (Zl f x) (Zl f i)) K U:=by
 simp only[OX]at h;split at h
 .rename_i s k n e1 e2;obtain⟨j,b,⟨rfl,hs⟩,h⟩:=h;simp only[e1,e2,Instr.index,asIntOf,Qf,Qi,Zg hu];rw[if_pos (by omega),Int.toNat_natCast,hs];exact h
 .exact h.elim
def Qzp{α β:Type}(g:α->Sem β)(v:α->β):∀(l:List α)(acc:Array β)(Q:Array β->Qa T->Prop)(U:Qa T),(∀a∈l,∀(Q:β->Qa T->Prop)U,Qr P (g a) Q U=Q (v a) U)->Q (acc++(l.map v).toArray) U->Qr P (Qgw g l acc) Q U
 |[],acc,Q,U,_,h=>by simpa[Qgw,Qi]using h
 |x::l,acc,Q,U,hg,h=>by
  simp only[Qgw,Qf,hg x (mem_cons_self ..)];refine Qzp g v l _ Q U (λ a ha=>hg a (mem_cons_of_mem _ ha)) ?_;have e:acc.push (v x)++(l.map v).toArray=acc++((x::l).map v).toArray:=by apply Array.ext';simp
  rw[e];exact h
def Zjs{fs:Array Field}(hall:fs.toList.all (λ fd=>(Jw P fd.type).isSome)=true){Q:Array (Nat×Nat)->Qa T->Prop}(h:Q (fs.map λ fd=>(fd.offset,(Jw P fd.type).getD 0)) U) :
  Qr P (fs.mapM λ fd=>do pure (fd.offset,<- sizeOf fd.type)) Q U:=by
 obtain⟨l⟩:=fs;rw[Q1b];refine Qzp _ (λ fd=>(fd.offset,(Jw P fd.type).getD 0)) l #[] Q U (λ fd hfd Q U=>?_) (by simpa using h);have:=all_eq_true.1 hall fd hfd;obtain⟨n,hn⟩:=Option.isSome_iff_exists.1 this;obtain⟨inf,hi,hsz⟩:∃i,P.info? fd.type=some i/\i.size=n:=by simpa[Jw]using hn
 simp only[Qf,Jh hi,Qi,hn,hsz,Option.getD_some]
def Q52:∀(vs:List Value)(cells:Array Value)(off j:Nat),(vs.zipIdx j).foldl (λ cs(p:Value×Nat)=>cs.setIfInBounds (off+p.2) p.1) cells=Qcv cells off vs j
 |[],_,_,_=>rfl
 |v::r,cells,off,j=>by simp only[zipIdx_cons,foldl_cons,Qcv];exact Q52 r _ off (j+1)
def Q03(place:Nat->Option (Nat×Nat))(f:Fm):∀(parts:List (Nat×Operand))(ps:List (Nat×Nat×Operand))(cells:Array Value),
  parts.mapM (λ p=>(place p.1).map λ q=>(q.1,q.2,p.2))=some ps->Instr.fill place cells (parts.map λ p=>(p.1,Zl f p.2))=Q5w f cells ps
 |[],ps,cells,h=>by simp at h;subst h;rfl
 |(i,x)::r,ps,cells,h=>by
  simp only[mapM_cons,Option.pure_def,Option.bind_eq_bind,Option.bind_eq_some_iff,Option.map_eq_some_iff]at h;obtain⟨_,⟨⟨off,size⟩,hp,rfl⟩,ps',hps,e⟩:=h;cases e;simp only[map_cons,Instr.fill,hp,Q5w];split
  .rfl
  .rw[<- Q03 place f r ps' _ hps];congr 1;rw[<- Q52,<- Array.foldl_toList,Array.toList_zipIdx]
def Z7.cells{a:Addr}{vs:List Value}(h:Z7 U a vs){Q:Array Value->Qa T->Prop}(hq:Q vs.toArray U):Qr P (loadCells a vs.length) Q U:=
 Qgp vs 0 #[] (λ j v hj=>by simpa using h j v hj) (by simpa using hq)
end
def Q02(cs:Array Value)(off n:Nat):cs.extract off (off+n)=((cs.toList.drop off).take n).toArray:=by
 apply Array.ext';simp[Array.toList_extract,extract_eq_take_drop]
def W4{o:Oper}{mu:List Nat}{a:Act}{f:Fm}(hf:∀x,a.eval x=Zl f x){K:Value->Qa T->Prop}{U:Qa T}
  (hsh:∀v U U',Qw U U'->K v U'->K v U) (h:OX S (Q9 P mu o) f K U):OpQ S o a K U:=by
 obtain⟨dst,op,ty,pos,after,guard⟩:=o
 have raw:∀o:Oper,OX S (.raw (J5 o)) f K U->Qr P (execOp a.eval o) (Qak S K) U:=λ o h=>Qr.mono _ (h a hf) λ n U hn=>by
  have hk:∀v(U:Qa T),(∃U1,Qw U U1/\K v U1)->K v U:=λ v U⟨U1,hs,hk⟩=>hsh v U U1 hs hk;cases n <;> first|exact hk _ _ hn|exact Qb.mono hn hk|exact Qaw.mono hn hk|exact hn
 unfold OpQ;cases op with
 |move x=>simp only[Q9,OX,Qz]at h;simp only[execOp,hf,Qi,Qak];exact h
 |assign x=>simp only[Q9,OX,Qz]at h;simp only[execOp,hf,Qi,Qak];exact h
 |pick c x y=>
  simp only[Q9,OX]at h;simp only[execOp,hf];split at h
  .rename_i e;rw[Qz]at h;simp only[e,Qf,asBool,Qi,Qak,if_true];exact h
  .rename_i e;rw[Qz]at h;simp only[e,Qf,asBool,Qi,Qak,Bool.false_eq_true,if_false];exact h
  .exact h.elim
 |binOp bop t x y yt=>
  simp only[Q9,Q5l]at h;simp only[execOp,hf];split at h
  .split at h
   .exact nq' (Zsl h)
   .split at h
    .exact nq' (Zsj h)
    .exact nq' (Zso h)
    .exact nq' (Zsn h)
    .exact nq' (Ztx h)
  .rename_i e;exact nq' (Zsk e h)
  .split at h
   .exact nq' (Zob h)
   .exact nq' (Zob h)
   .have:=raw _ h;simpa only[execOp,hf]using this
  .have:=raw _ h;simpa only[execOp,hf]using this
 |unOp uop t x=>
  cases uop with
  |not=>
   simp only[Q9,OX]at h;simp only[execOp,hf];split at h
   .rename_i e;simp only[e];exact nq' h
   .exact h.elim
  |_=>exact raw _ h
 |call c=>
  obtain⟨callee,args,ats⟩:=c;cases callee with
  |value g=>exact Zqo hf h
  |invoke r mth=>exact raw _ h
  |builtin b=>
   cases b with
   |len=>
    simp only[Q9]at h;split at h
    .rename_i x t;split at h
     .rename_i e hu;simp only[OX]at h;split at h
      .rename_i e2;simp only[execOp,Qf,resolve,Qi,invoke,builtin,Builtin.len_];simp only[map_toArray,map_cons,map_nil,hf,e2,getElem?_toArray,getElem?_cons_zero,Qf,Zg hu,Qi,Qak,goInt];exact h
      .exact h.elim
     .rename_i hu;simp only[OX]at h;split at h
      .rename_i e2;simp only[execOp,Qf,resolve,Qi,invoke,builtin,Builtin.len_];simp only[map_toArray,map_cons,map_nil,hf,e2,getElem?_toArray,getElem?_cons_zero,Qf,Zg hu,Qi,Qak,goInt];exact h
      .exact h.elim
     .rename_i kk ee hu;simp only[OX]at h;split at h
      .rename_i e2;simp only[execOp,Qf,resolve,Qi,invoke,builtin,Builtin.len_];simp only[map_toArray,map_cons,map_nil,hf,e2,getElem?_toArray,getElem?_cons_zero,Qf,Zg hu,Qi,Qak,goInt];exact h
      .rename_i r e2;obtain⟨es,clock,hh,h⟩:=h;simp only[execOp,Qf,resolve,Qi,invoke,builtin,Builtin.len_];simp only[map_toArray,map_cons,map_nil,hf,e2,getElem?_toArray,getElem?_cons_zero,Qf,Zg hu,getObj];exact⟨_,hh,rfl,rfl,h⟩
      .exact h.elim
     .exact raw _ h
    .exact raw _ h
   |_=>exact raw _ h
 |convert src dt x=>
  simp only[Q9]at h;split at h
  .rename_i k1 k hu hu';simp only[OX]at h;split at h
   .rename_i k2 n e;simp only[execOp,hf,e];refine nq' ?_;simp only[convert,Qf,Zg hu,Zg hu',Conv.intToInt,Qi];exact h
   .exact h.elim
  .exact raw _ h
 |fieldAddr s x i=>
  simp only[Q9]at h;split at h
  .rename_i fs hu;split at h
   .rename_i fd hfd;split at h
    .rename_i n hs;obtain⟨inf,hi,hsz⟩:=Qa0 hs;simp only[OX]at h;split at h
     .rename_i ad e;simp only[execOp,hf,e];refine nq' ?_;simp only[Instr.fieldAt,Qf,Zg hu,hfd,Instr.sureAddr,Qi,fieldPlace,Jh hi,hsz];simpa[Qi]using h
     .exact h.elim
    .exact raw _ h
   .exact raw _ h
  .exact raw _ h
 |indexAddr t x i=>
  simp only[Q9]at h;split at h
  .rename_i e hu;split at h
   .rename_i n hs;simp only[execOp,hf];exact nq' (Zsm hu hs h)
   .exact raw _ h
  .rename_i len e hu;split at h
   .rename_i n hs;split at h
    .exact raw _ h
    .simp only[execOp,hf];exact nq' (Zqn hu hs h)
   .exact raw _ h
  .exact raw _ h
 |index t x i=>
  simp only[Q9]at h;split at h
  .rename_i hu;simp only[execOp,hf];exact nq' (Zqp hu h)
  .exact raw _ h
 |load t x=>
  simp only[Q9]at h;split at h
  .rename_i d hu;split at h
   .rename_i hag;split at h
    .rename_i n hs;obtain⟨inf,hi,hsz⟩:=Qa0 hs;simp only[OX]at h;split at h
     .rename_i ad e;obtain⟨vs,⟨hl,hr⟩,h⟩:=h;simp only[execOp,hf,e];refine nq' ?_;simp only[Instr.loadAt,Instr.sureAddr,Qf,Qi,loadVar,Qif hu,hag,if_true,Jh hi,hsz,<- hl];exact hr.cells h
     .exact h.elim
    .exact raw _ h
   .rename_i hag;simp only[OX]at h;split at h
    .rename_i ad e;obtain⟨v,hs,h⟩:=h;rw[Qz]at h;simp only[execOp,hf,e];refine nq' ?_;simp only[Instr.loadAt,Instr.sureAddr,Qf,Qi,loadVar,Qif hu,hag,Bool.false_eq_true,if_false];exact Q1r hs h
    .exact h.elim
  .exact raw _ h
 |store t x v=>
  simp only[Q9]at h;split at h
  .rename_i n hs;obtain⟨inf,hi,hsz⟩:=Qa0 hs;simp only[OX]at h;split at h
   .rename_i ad e;obtain⟨hn,h⟩:=h;simp only[execOp,hf,e];rw[Qf];simp only[Instr.storeAt,Instr.sureAddr,Qf,Qi,storeVar,Jh hi,hsz,hn,ne_eq,not_true_eq_false,if_false];exact Qat _ 0 U (StV.mono (λ U'⟨U1,h1,h2⟩=>hsh _ _ _ h1 h2) _ _ _ h)
   .exact h.elim
  .exact raw _ h
 |box t x=>
  have key:(∀b,U.free b->K (.pointer (some ⟨b,0,none⟩)) (U.put b (.cells (Zl f x).cells t)))->Qr P (execOp a.eval ⟨dst,.box t x,ty,pos,after,guard⟩) (Qak S K) U:=by
   intro h;simp only[execOp,hf];refine nq' ?_;simp only[Instr.box,newVar,Qf];refine Jk λ b hb=>?_;simp only[Qi];exact h b hb
  simp only[Q9]at h;split at h
  .split at h
   .exact key h
   .exact key λ b hb=>hsh _ _ _ (Wf (U:=U.put b (.cells (Zl f x).cells t)) (b:=b) (o:=.cells (Zl f x).cells t) (M':=U.M) (Perm.refl _)) ((by simpa only[OX,Qoo]using h:∀b U1,U.le U1->Zd U1 b (Zl f x).cells->K (.pointer (some ⟨b,0,none⟩)) U1) b _ (Qor hb) Zd.new)
  .exact key h
 |alloc t=>
  simp only[Q9]at h;split at h
  .rename_i z hz;obtain⟨inf,hi,hzz⟩:=Qcn hz;simp only[execOp];refine nq' ?_;simp only[Instr.alloc,newVar,Qf,Qb7 hi hzz];refine Jk λ b hb=>?_;simp only[Qi];obtain⟨U1,hs,h⟩:=h b hb;exact hsh _ _ _ hs h
  .exact raw _ h
 |extract x i=>
  simp only[Q9,OX]at h;simp only[execOp,hf];refine nq' ?_;split at h
  .rename_i vs e;split at h
   .rename_i v hv;rw[Qz]at h;simp only[e,Instr.extract,hv,Qi];exact h
   .exact h.elim
  .exact h.elim
 |field t x i=>
  simp only[Q9]at h;split at h
  .rename_i fs hu;split at h
   .rename_i fd hfd;split at h
    .rename_i d hd;split at h
     .rename_i hag;split at h
      .rename_i n hs;obtain⟨inf,hi,hsz⟩:=Qa0 hs;simp only[OX]at h;split at h
       .rename_i cs e;simp only[execOp,hf,e];refine nq' ?_;simp only[Instr.field,Qf,Zg hu,hfd,asAgg,Qi,part,Qif hd,hag,if_true,Jh hi,hsz];rw[Q02];exact h
       .exact h.elim
      .exact raw _ h
     .rename_i hag;simp only[OX]at h;split at h
      .rename_i cs e;split at h
       .rename_i v hv;rw[Qz]at h;simp only[execOp,hf,e];refine nq' ?_;simp only[Instr.field,Qf,Zg hu,hfd,asAgg,Qi,part,Qif hd,hag,Bool.false_eq_true,if_false,hv];exact h
       .exact h.elim
      .exact h.elim
    .exact raw _ h
   .exact raw _ h
  .exact raw _ h
 |makeFunc fn first capt=>
  simp only[Q9,OX,J8]at h;have e:a.eval=Zl f:=funext hf;simp only[execOp,e];have e1:∀l:Array Operand,l.map (Zl f)=(l.toList.map (Zl f)).toArray:=λ l=>by apply Array.ext';simp
  rw[e1,e1];exact nq' h
 |nilCheck x=>
  simp only[Q9,OX]at h;simp only[execOp,hf];split at h
  .rename_i ad e;simp only[e];exact nq' (s:=pure (.pointer (some ad))) h
  .exact h.elim
 |build t parts=>
  simp only[Q9]at h;split at h
  .rename_i fs z hu hz;split at h
   .rename_i hall;split at h
    .rename_i ps hps;obtain⟨inf,hi,hzz⟩:=Qcn hz;simp only[OX,Qdj,Array.toArray_toList]at h;split at h
     .rename_i cells hc;simp only[execOp,hf];refine nq' ?_;simp only[Instr.build,Qf,Qb7 hi hzz,Zg hu];refine Zjs hall ?_
      have hf':Instr.fill ((fs.map λ fd=>(fd.offset,(Jw P fd.type).getD 0))[·]?) z.cells ((parts.map λ p=>(p.1,Zl f p.2)).toList)=some cells:=by
       rw[<- hc,Array.toList_map];refine Q03 _ f parts.toList ps z.cells ?_;rw[<- hps];congr 1;funext p;simp only[Array.getElem?_map];cases fs[p.1]? <;> rfl
      simp only[hf',Qi];exact h
     .exact h.elim
    .exact raw _ h
   .exact raw _ h
  .exact raw _ h
 |buildSlice t len parts=>
  simp only[Q9]at h;split at h
  .rename_i e hu;split at h
   .rename_i n z hs hz;split at h
    .rename_i hle;obtain⟨inf,hi,hzz⟩:=Qcn hz;obtain⟨inf',hi',hsz⟩:=Qa0 hs;simp only[OX,Qdj,Array.toArray_toList]at h;split at h
     .rename_i cells hc
      have hfl:Instr.fill (λ i=>some (i*n,n)) (if len*n=0 then #[]else(Array.range (len*n)).map (z.cells[· % z.cells.size]!)) ((parts.map λ p=>(p.1,Zl f p.2)).toList)=some cells:=by
       rw[<- hc,Array.toList_map];refine Q03 _ f parts.toList _ _ ?_;generalize parts.toList=l
       induction l with
       |nil=>rfl
       |cons p l ih=>rw[mapM_cons,ih];rfl
      simp only[execOp,hf];refine nq' ?_;simp only[Instr.buildSlice,Qf,Zg hu,Jh hi',hsz];rw[if_neg (by omega)]
      have last:∀(msg:String)(cells':Array Value),cells'=(if len*n=0 then #[]else(Array.range (len*n)).map (z.cells[· % z.cells.size]!)) ->
        Qr P (do
         let some cells:=Instr.fill (λ i=>some (i*n,n)) ((Array.range (len*n)).map (λ k=>(if len*n=0 then #[]else z.cells)[k % (if len*n=0 then #[]else z.cells).size]!)) ((parts.map λ p=>(p.1,Zl f p.2)).toList)|stuck msg
         pure (.slice (some (<- newRow e cells)) len len):Sem Value) K U:=by
       intro msg cells' _
       have e2:(Array.range (len*n)).map (λ k=>(if len*n=0 then #[]else z.cells)[k % (if len*n=0 then #[]else z.cells).size]!)=(if len*n=0 then #[]else(Array.range (len*n)).map (z.cells[· % z.cells.size]!)):=by
        split
        .rename_i h0;simp[h0]
        .rfl
       rw[e2,hfl];simp only[Qf];refine Jk λ b hb=>?_;simp only[Qi];obtain⟨U1,hss,h⟩:=h b hb;exact hsh _ _ _ hss h
      have:=λ msg=>last msg _ rfl;by_cases h0:len*n=0
      .rw[if_pos h0];simp only[h0,if_true]at this;simp only[h0,Qi];exact this _
      .rw[if_neg h0];simp only[h0,if_false]at this;simp only[Qf,Qb7 hi hzz,Qi];exact this _
     .exact h.elim
    .exact raw _ h
   .exact raw _ h
  .exact raw _ h
 |slice t x lo hi mx=>
  cases mx with
  |some _=>exact raw _ h
  |none=>
   simp only[Q9]at h;split at h
   .rename_i e hu;split at h
    .rename_i n hs;simp only[execOp,show a.eval=Zl f from funext hf];exact nq' (Zqq hu hs h)
    .exact raw _ h
   .exact raw _ h
 |_=>exact raw _ h
structure St where
 o:O
 dst:Option Nat
 g:Option (Nat×Bool)
 dfr:Option (Operand×Array Operand):=none
abbrev St.d(n:Nat)(o:O):St:=⟨o,some n,none,none⟩
abbrev St.m(n k:Nat):St:=⟨.mv (.tmp k),some n,none,none⟩
abbrev St.u(n j:Nat)(b:Bool)(o:O):St:=⟨o,some n,some (j,b),none⟩
abbrev Zp(T:Type):=Fm->List Deferred->Qa T->Prop
def GB(b want:Bool)(A B:Prop):Prop:=
 match b,want with
 |true,true=>A
 |false,false=>A
 |true,false=>B
 |false,true=>B
def Zc{b want:Bool}{A B:Prop}(h:b=want->A)(h':b=!want->B):GB b want A B:=by
 cases b <;> cases want <;> first|exact h rfl|exact h' rfl
def CB(b:Bool)(A B:Prop):Prop:=
 match b with
 |true=>A
 |false=>B
def Qe{b:Bool}{A B:Prop}(h:b=true->A)(h':b=false->B):CB b A B:=by cases b <;> first|exact h rfl|exact h' rfl
def Zj6(S:Sys P T)(ro:Option Nat)(st:St)(ih:Zp T->Zp T)(K:Zp T):Zp T:=λ f ds U=>
  match st.g with
  |some (j,want)=>(match f j with
   |.bool b=>GB b want (OX S st.o (upd f j (.bool want)) (λ v U'=>ih K (Qc3 (upd f j (.bool want)) st.dst v) ds U') U)
     (ih K (Qc3 (upd f j (.bool !want)) st.dst undef) ds U)
   |.tuple _=>ih K (Qc3 f st.dst undef) ds U
   |_=>False)
  |none=>(match st.dfr with
   |some (c,args)=>(match Zl f c with
    |.func fn first capt=>ro=none/\ih K (Qc3 f st.dst undef) ({ target:=.fn fn capt,args:=first++args.map (Zl f) }::ds) U
    |_=>False)
   |none=>OX S st.o f (λ v U'=>ih K (Qc3 f st.dst v) ds U') U)
def OpX(S:Sys P T)(ro:Option Nat)(l:List St):Zp T->Zp T:=List.rec (motive:=λ _=>Zp T->Zp T) (λ K=>K) (λ st _ ih=>Zj6 S ro st ih) l
def Qrr(S:Sys P T)(ro:Option Nat)(st:St)(r:List St)(K:Zp T):OpX S ro (st::r) K=Zj6 S ro st (OpX S ro r) K:=rfl
def DX1(S:Sys P T)(G:Qa T->Prop)(kd:Nat)(st:St)(ih:(Qa T->Prop)->Zp T->Zp T)(C:Qa T->Prop)(K:Zp T):Zp T:=λ f ds U=>
  let run (f:Fm):Prop:=match kd with
   |0=>OX S st.o f (λ v _=>ih C K (Qc3 f st.dst v) ds U) U
   |1=>∃v,(∀U',U.le U'->C U'->OX S st.o f (λ v' U2=>v'=v/\∃U1,Qw U2 U1/\U'.le U1) U')/\ih C K (Qc3 f st.dst v) ds U
   |3=>∃v,(∀U',U.le U'->C U'->OX S st.o f (λ v' U2=>v'=v/\∃U1,Qw U2 U1/\U'.le U1) U')/\(∀U',G U'->OX S st.o f (λ v' U2=>v'=v/\∃U1,Qw U2 U1/\U'.le U1) U')/\ih C K (Qc3 f st.dst v) ds U
   |_=>∃F:Value->Qa T->Prop,(∀v,Qwd (F v))/\(∀U',U.le U'->C U'->OX S st.o f (λ v' U2=>∃U1,Qw U2 U1/\F v' U1/\U'.le U1) U') /\
     ∀v,(∃U',U.le U'/\C U'/\F v U')->ih (λ U'=>C U'/\F v U') K (Qc3 f st.dst v) ds U
  match st.g with
  |some (j,want)=>(match f j with
   |.bool b=>GB b want (run (upd f j (.bool want))) (ih C K (Qc3 (upd f j (.bool !want)) st.dst undef) ds U)
   |.tuple _=>ih C K (Qc3 f st.dst undef) ds U
   |_=>False)
  |none=>run f
def DX(S:Sys P T)(G:Qa T->Prop)(l:List (Nat×St)):(Qa T->Prop)->Zp T->Zp T:=
 List.rec (motive:=λ _=>(Qa T->Prop)->Zp T->Zp T) (λ C K f ds U=>∀U',U.le U'->C U'->K f ds U') (λ p _ ih=>DX1 S G p.1 p.2 ih) l
def Zep(S:Sys P T)(G:Qa T->Prop)(kd:Nat)(st:St)(r:List (Nat×St)):DX S G ((kd,st)::r)=DX1 S G kd st (DX S G r):=rfl
def Zrs(S:Sys P T)(G:Qa T->Prop)(st:St)(K:Zp T):Zp T:=λ f ds U=>
 OX S st.o f (λ v' U2=>v'=undef/\∃U1,Qw U2 U1/\G U1) U/\∀U',G U'->K (Qc3 f st.dst undef) ds U'
def ovr:List (Nat×Value)->Fm->Fm
 |[],f=>f
 |p::l,f=>upd (ovr l f) p.1 p.2
def Qjc(f:Fm)(l:List (Nat×Value)):Prop:=List.rec (motive:=λ _=>Prop) True (λ p _ ih=>f p.1=p.2/\ih) l
def Qmt{f:Fm}{d:Nat}{v:Value}(h:f d=v):upd f d v=f:=by
 funext t;simp only[upd];cases e:Nat.beq t d with
 |true=>rw[Nat.eq_of_beq_eq_true e];exact h.symm
 |false=>rfl
def Qjc.ovr{f:Fm}:∀{l:List (Nat×Value)},Qjc f l->ovr l f=f
 |[],_=>rfl
 |(d,v)::l,h=>by
  show upd (TM.ovr l f) d v=f;rw[Qjc.ovr h.2];exact Qmt h.1
structure FR(N:Nat)(a:Act)(f:Fm)(ds:List Deferred):Prop where
 ds:a.defers=ds
 size:a.tmps.size=N
 get:∀t,a.tmps.getD t undef=f t
def FR.eval{N:Nat}{a:Act}{f:Fm}{ds:List Deferred}(h:FR N a f ds)(x:Operand):a.eval x=Zl f x:=by
 cases x with
 |tmp t=>exact h.get t
 |_=>rfl
def FR.put{N:Nat}{a:Act}{f:Fm}{ds:List Deferred}(h:FR N a f ds)(dst:Option Nat)(v:Value)(hd:∀d,dst=some d->d<N):FR N (a.put dst v) (Qc3 f dst v) ds:=by
 cases dst with
 |none=>exact h
 |some d=>
  have hlt:=hd d rfl;refine⟨h.ds,by simpa[Act.put]using h.size,λ t=>?_⟩;simp only[Act.put,Qc3,upd,Array.getD_eq_getD_getElem?,Array.getElem?_setIfInBounds];by_cases e:d=t
  .subst e;have:d<a.tmps.size:=by rw[h.size];exact hlt
   simp[this]
  .have e':Nat.beq t d=false:=by cases hb:Nat.beq t d with|false=>rfl|true=>exact absurd (Nat.eq_of_beq_eq_true hb).symm e
   have:=h.get t;simp only[Array.getD_eq_getD_getElem?]at this;simp[e,e',this]
def FR.slot{N:Nat}{a:Act}{f:Fm}{ds:List Deferred}(h:FR N a f ds){d:Nat}{b:Bool}(hd:f d=.bool b):a.tmps[d]?=some (.bool b):=by
 have:=h.get d;rw[hd,Array.getD_eq_getD_getElem?]at this;cases hx:a.tmps[d]? with
 |none=>rw[hx]at this;cases this
 |some v=>rw[hx]at this;simpa using this
inductive C where
 |skip
 |seq (x y:C)
 |ite (c:Operand) (x y:C)
 |block (id:Nat) (b:C)
 |loop (b:C)
 |exit (id:Nat)
 |ret
 |scope (b:C)
 |reg (l:List St)
 |drw (qs:List (Nat×St)) (ts:List St)
 |drs (qs:List (Nat×St)) (st:St) (ts:List St)
 |rng (N:Nat) (mu dets:List Nat) (f:Operand) (params:Array Tmp) (assign body:C)
 |cd (N:Nat) (c:Code)
 |bad
def Jj(P:Program)(mu:List Nat)(ops:Array Oper)(o:Oper):Option St:=
 match o.op,o.guard with
 |.defer { callee:=.value c,args,.. },none=>some ⟨.mv c,o.dst,none,some (c,args)⟩
 |.defer _,_=>none
 |_,none=>some ⟨Q9 P mu o,o.dst,none,none⟩
 |_,some (j,w)=>(match(ops[j]?).bind (·.dst)with
  |some d=>some ⟨Q9 P mu o,o.dst,some (d,w),none⟩
  |none=>none)
def stable:O->Bool
 |.mv _|.pick ..|.add ..|.sub ..|.mul ..|.cmp ..|.beq ..|.ar ..|.teq ..|.not _|.len _|.lenT _|.conv ..|.off ..|.idx ..|.aidx ..|.sidx ..|.ld _|.ldn ..|.ext ..|.part ..|.part1 ..|.mkf ..|.nilc _|.sub3 ..|.build ..=>true
 |_=>false
def Qoq:O->Bool
 |.ld _|.ldn ..=>true
 |_=>false
def Ztr:O->Bool
 |.st ..=>true
 |_=>false
def inB(N:Nat)(o:Oper):Bool:=match o.dst with|some d=>decide (d<N)|none=>true
def Qv0(ops:Array Oper)(isRel:Nat->Bool):Nat->List Nat->List Nat->List Nat
 |0,_,done=>done
 |n+1,left,done=>
  let ready:=left.filter λ i=>(Ww ops i).all done.contains
  match ready.find? (λ i=>!isRel i)with
  |some i=>Qv0 ops isRel n (left.filter (· != i)) (done++[i])
  |none=>(match ready with
   |i::_=>Qv0 ops isRel n (left.filter (· != i)) (done++[i])
   |[]=>done)
def Qab(ops:Array Oper):Nat->Nat
 |0=>0
 |k+1=>if(range k).all (λ j=>((Qgx ops ops.size).getD k 0).testBit j)then Qab ops k else k+1
def Qdm(P:Program)(mu dets:List Nat)(ops:Array Oper)(i:Nat):Bool:=
 match ops[i]? with
 |some o=>!stable (Q9 P mu o)&&!((o.dst.map dets.contains).getD false)
 |none=>false
def Q08(P:Program)(mu:List Nat)(ops:Array Oper)(rl:List Nat)(i:Nat):Nat:=
 if rl.contains i then 2 else match ops[i]? with
  |some o=>if stable (Q9 P mu o)then 0 else 1
  |none=>1
def Zfg(ops:Array Oper)(x j:Nat):Bool:=!((Qgx ops ops.size).getD x 0).testBit j
def Q50(P:Program)(mu:List Nat)(ops:Array Oper)(rl:List Nat)(x i:Nat):Nat:=
 if rl.contains i then 2 else match ops[i]? with
  |some o=>if stable (Q9 P mu o)&&(!Qoq (Q9 P mu o)|| !Zfg ops x i)then 0 else if Zfg ops x i then 3 else 1
  |none=>3
def Qh3(P:Program)(mu:List Nat)(N:Nat)(dets:List Nat)(ops:Array Oper)(draw:Bool):C:=
 if !ops.all (inB N)then .bad else
 match draw with
 |false=>(match(range ops.size).mapM (λ i=>(ops[i]?).bind (Jj P mu ops))with|some l=>.reg l|none=>.bad)
 |true=>
  let k:=Qab ops ops.size
  let qs:=Qv0 ops (Qdm P mu dets ops) ops.size (range k) []
  let ts:=(range ops.size).drop k
  let rl:=(range k).filter (Qdm P mu dets ops)
  if !Qvh ops rl qs ts|| !rl.all (λ i=>((ops[i]?).map (·.guard.isNone)).getD true)then .bad else
  match qs.getLast?.bind λ x=>((ops[x]?).bind (Jj P mu ops)).bind λ st=>if rl.contains x&&Ztr st.o&&st.g.isNone&&st.dfr.isNone then some (x,st)else none with
  |some (x,st)=>(match qs.dropLast.mapM (λ i=>((ops[i]?).bind (Jj P mu ops)).map λ st=>(Q50 P mu ops rl x i,st)),ts.mapM (λ i=>(ops[i]?).bind (Jj P mu ops))with
   |some a,some b=>if a.all (λ x=>x.2.dfr.isNone)then .drs a st b else .bad
   |_,_=>.bad)
  |none=>
  match qs.mapM (λ i=>((ops[i]?).bind (Jj P mu ops)).map λ st=>(Q08 P mu ops rl i,st)),ts.mapM (λ i=>(ops[i]?).bind (Jj P mu ops))with
  |some a,some b=>if a.all (λ x=>x.2.dfr.isNone)then .drw a b else .bad
  |_,_=>.bad
def Zun:Op->Bool
 |.go _=>true
 |_=>false
def Ztq:Op->Bool
 |.mapEntry ..=>true
 |_=>false
def Zrq(ops:Array Oper):Bool:=ops.any λ o=>Zun o.op|| Ztq o.op
def clean(P:Program)(mu:List Nat)(N:Nat)(dets:List Nat):Code->C
 |.skip=>.skip
 |.label _=>.skip
 |.seq a b=>.seq (clean P mu N dets a) (clean P mu N dets b)
 |.cond c a b=>.ite c (clean P mu N dets a) (clean P mu N dets b)
 |.block id b=>.block id (clean P mu N dets b)
 |.loop b=>.loop (clean P mu N dets b)
 |.exit i=>.exit i
 |.ret=>.ret
 |.scope b=>.scope (clean P mu N dets b)
 |.region id ops d=>if Zrq ops|| mu.contains (1000+id)then .cd N (.region id ops d)else match Qh3 P mu N dets ops d with
  |.bad=>.cd N (.region id ops d)
  |c=>c
 |.rangeFunc f ps as bd=>.rng N mu dets f ps (clean P mu N dets as) (clean P mu N dets bd)
 |.goto _=>.bad
 |.refuse _=>.bad
def Ztt(b:Zp T->(Nat->Zp T)->Zp T->Zp T)(x:Nat->Zp T)(r:Zp T):Zp T:=λ f ds U=>
 ∃(α:Type)(L:α->List (Nat×Value))(I:α->Qa T->Prop)(μ:α->Nat)(x_0:α),Qjc f (L x_0)/\I x_0 U /\
   ∀y f U,I y U->b (λ f' ds' U'=>ds'=ds/\∃y',Qjc f' (L y')/\I y' U'/\μ y'<μ y) x r (ovr (L y) f) ds U
def Zse(c:Operand)(a b:Zp T):Zp T:=λ f ds U=>(match Zl f c with
  |.bool t=>CB t (a f ds U) (b f ds U)
  |_=>False)
def We(S:Sys P T)(fn:FuncId)(ro:Option Nat)(N:Nat)(mu dets:List Nat)(c:Operand)(params:Array Tmp)(as bd:C)(n:Zp T)(x:Nat->Zp T)(r:Zp T):Zp T:=λ f ds U=>
 ∀ca cb:Code,clean P mu N dets ca=as->clean P mu N dets cb=bd->∀a:Act,FR N a f ds ->
   Zu S fn ro (.rangeFunc c params ca cb) (λ e a' U'=>a'.tmps=a.tmps/\(match e with|.normal=>n f a'.defers U'|.exit i=>x i f a'.defers U'|.ret=>r f a'.defers U')) a U
def cdX(S:Sys P T)(fn:FuncId)(ro:Option Nat)(N:Nat)(c:Code)(n:Zp T)(x:Nat->Zp T)(r:Zp T):Zp T:=λ f ds U=>
 ∀a:Act,FR N a f ds ->
   Zu S fn ro c (λ e a' U'=>a'.tmps.size=a.tmps.size/\∃f',(∀t,a'.tmps.getD t undef=f' t)/\(match e with|.normal=>n f' a'.defers U'|.exit i=>x i f' a'.defers U'|.ret=>r f' a'.defers U')) a U
def wpC(S:Sys P T)(fn:FuncId)(ro:Option Nat)(c:C):Zp T->(Nat->Zp T)->Zp T->Zp T:=
 C.rec (motive:=λ _=>Zp T->(Nat->Zp T)->Zp T->Zp T)
  (λ n _ _=>n)
  (λ _ _ a b n x r=>a (b n x r) x r)
  (λ c _ _ a b n x r=>Zse c (a n x r) (b n x r))
  (λ id _ b n x r=>b n (λ i f ds U=>bif Nat.beq i id then n f ds U else x i f ds U) r)
  (λ _ b _ x r=>Ztt b x r)
  (λ i _ x _=>x i)
  (λ _ _ r=>r)
  (λ _ b n x r=>b n x r)
  (λ l n _ _=>OpX S ro l n)
  (λ qs ts n _ _=>DX S (λ _=>False) qs (λ _=>True) (OpX S ro ts n))
  (λ qs st ts n _ _ f ds U=>∃G,Qwd G/\DX S G qs (λ _=>True) (Zrs S G st (OpX S ro ts n)) f ds U)
  (λ N mu dets c params as bd _ _ n x r=>We S fn ro N mu dets c params as bd n x r)
  (λ N c n x r=>cdX S fn ro N c n x r)
  (λ _ _ _ _ _ _=>False) c
end Go.TM
set_option linter.unusedSimpArgs false
namespace Go.TM
variable{T:Type}{P:Program}{S:Sys P T}
def Qa.sees.le{U U':Qa T}{a:Addr}{v:Value}(h:U.sees a v)(hl:U.le U'):U'.sees a v:=by
 obtain⟨hs,⟨c,t,fr,hb,hc⟩|⟨t,n,hm⟩⟩:=h
 .exact⟨hs,.inl ⟨c,t,fr,hb.imp (hl.imm _ _) (λ h=>hl.own▸h),hc⟩⟩
 .exact⟨hs,.inr ⟨t,n,hl.own▸hm⟩⟩
def Z7.le{U U':Qa T}{a:Addr}{vs:List Value}(h:Z7 U a vs)(hl:U.le U'):Z7 U' a vs:=λ i v hv=>(h i v hv).le hl
def Qak.mono{K K':Value->Qa T->Prop}(hk:∀v U,K v U->K' v U){n:Next}{U:Qa T}(hn:Qak S K n U):Qak S K' n U:=by
 cases n <;> first|exact hk _ _ hn|exact Qb.mono hn hk|exact Qaw.mono hn hk|exact hn
def OX.mono{o:O}{f:Fm}{K K':Value->Qa T->Prop}{U:Qa T}(hk:∀v U,K v U->K' v U)(h:OX S o f K U):OX S o f K' U:=by
 cases o with
 |raw o=>exact λ a ha=>Qr.mono _ (h a ha) λ n U hn=>Qak.mono (λ v U⟨U1,h1,h2⟩=>⟨U1,h1,hk _ _ h2⟩) hn
 |call c args=>
  simp only[OX]at h ⊢;split at h
  .simp only[J8]at h ⊢;exact⟨h.1,h.2.mono λ v U h hs=>hk v U (h hs)⟩
  .simp only[J8]at h ⊢;exact Qr.mono _ h λ n U hn=>Qak.mono hk hn
  .exact h
 |st n x v=>
  simp only[OX]at h ⊢;split at h
  .exact⟨h.1,StV.mono (λ U⟨U1,a,b⟩=>⟨U1,a,hk _ U1 b⟩) _ _ _ h.2⟩
  .exact h
 |box t x=>simp only[OX,Qoo]at h ⊢;exact λ b U1 hl hb=>hk _ _ (h b U1 hl hb)
 |boxM t x=>exact λ b hb=>hk _ _ (h b hb)
 |alloc t z=>exact λ b hb=>let ⟨U1,a,b⟩:=h b hb;⟨U1,a,hk _ _ b⟩
 |bsl t len z ps=>
  simp only[OX,Qdj,Array.toArray_toList]at h ⊢;split at h
  .exact λ b hb=>let ⟨U1,a,b⟩:=h b hb;⟨U1,a,hk _ _ b⟩
  .exact h
 |lenM x=>
  simp only[OX]at h ⊢;split at h
  .exact hk _ _ h
  .obtain⟨a,b,c,d⟩:=h;exact⟨a,b,c,hk _ _ d⟩
  .exact h
 |mv x=>simp only[OX,Qz]at h ⊢;exact hk _ _ h
 |mkf fn first capt=>simp only[OX,J8]at h ⊢;exact hk _ _ h
 |pick c a b=>
  simp only[OX,Qz]at h ⊢;split at h
  .exact hk _ _ h
  .exact hk _ _ h
  .exact h
 |ext x i=>
  simp only[OX,Qz]at h ⊢;split at h
  .split at h
   .exact hk _ _ h
   .exact h
  .exact h
 |part1 off x=>
  simp only[OX,Qz]at h ⊢;split at h
  .split at h
   .exact hk _ _ h
   .exact h
  .exact h
 |ld x=>
  simp only[OX,Qz]at h ⊢;split at h
  .obtain⟨v,a,b⟩:=h;exact⟨v,a,hk _ _ b⟩
  .exact h
 |ldn n x=>
  simp only[OX]at h ⊢;split at h
  .obtain⟨v,a,b⟩:=h;exact⟨v,a,hk _ _ b⟩
  .exact h
 |sidx x i=>
  simp only[OX]at h ⊢;split at h
  .obtain⟨j,v,a,b⟩:=h;exact⟨j,v,a,hk _ _ b⟩
  .exact h
 |idx n x i=>
  simp only[OX]at h ⊢;split at h
  .obtain⟨ad,j,a,b⟩:=h;exact⟨ad,j,a,hk _ _ b⟩
  .exact h
 |aidx n m x i=>
  simp only[OX]at h ⊢;split at h
  .obtain⟨j,a,b⟩:=h;exact⟨j,a,hk _ _ b⟩
  .exact h
 |sub3 sz x lo hi=>
  simp only[OX]at h ⊢;split at h
  .split at h
   .obtain⟨l,hh,a,b⟩:=h;exact⟨l,hh,a,hk _ _ b⟩
   .exact h
  .exact h
 |build z ps=>
  simp only[OX,Qdj,Array.toArray_toList]at h ⊢;split at h
  .exact hk _ _ h
  .exact h
 |cmp op x y=>
  simp only[OX]at h ⊢;split at h
  .refine⟨h.1,?_⟩;cases op <;> first|exact h.2.elim|exact hk _ _ h.2
  .exact h
 |beq op x y=>
  simp only[OX]at h ⊢;split at h
  .cases op <;> first|exact h.elim|exact hk _ _ h
  .exact h
 |teq op x y=>
  simp only[OX]at h ⊢;split at h
  .cases op <;> first|exact h.elim|exact hk _ _ h
  .exact h
 |ar op x y=>
  simp only[OX]at h ⊢;split at h
  .cases op <;> first|exact h.elim|exact⟨h.1,h.2.1,hk _ _ h.2.2⟩|exact⟨h.1,hk _ _ h.2⟩
  .exact h
 |_=>
  simp only[OX]at h ⊢;split at h
  .first|exact⟨h.1,hk _ _ h.2⟩|exact hk _ _ h
  .exact h
def OX.stable{o:O}{f:Fm}{K:Value->Qa T->Prop}{U:Qa T}(hs:stable o=true)(h:OX S o f K U):∃v,K v U/\∀(U':Qa T)(K':Value->Qa T->Prop),(Qoq o=false\/U.le U')->K' v U'->OX S o f K' U':=by
 cases o with
 |raw o=>cases hs
 |call c args=>cases hs
 |st n x v=>cases hs
 |box t x=>cases hs
 |boxM t x=>cases hs
 |alloc t z=>cases hs
 |bsl t len z ps=>cases hs
 |lenM x=>cases hs
 |mv x=>simp only[OX,Qz]at h;exact⟨_,h,λ _ _ _ k=>by simpa only[OX,Qz]using k⟩
 |mkf fn first capt=>simp only[OX,J8]at h;exact⟨_,h,λ _ _ _ k=>by simpa only[OX,J8]using k⟩
 |pick c a b=>
  simp only[OX,Qz]at h;split at h <;> rename_i e
  .exact⟨_,h,λ _ _ _ k=>by simpa[OX,Qz,e]using k⟩
  .exact⟨_,h,λ _ _ _ k=>by simpa[OX,Qz,e]using k⟩
  .exact h.elim
 |ext x i=>
  simp only[OX,Qz]at h;split at h <;> rename_i e
  .split at h <;> rename_i e'
   .exact⟨_,h,λ _ _ _ k=>by simpa[OX,Qz,e,e']using k⟩
   .exact h.elim
  .exact h.elim
 |part1 off x=>
  simp only[OX,Qz]at h;split at h <;> rename_i e
  .split at h <;> rename_i e'
   .exact⟨_,h,λ _ _ _ k=>by simpa[OX,Qz,e,e']using k⟩
   .exact h.elim
  .exact h.elim
 |ld x=>
  simp only[OX,Qz]at h;split at h <;> rename_i e
  .obtain⟨v,a,b⟩:=h;exact⟨v,b,λ U' K' hl k=>by simp only[OX,Qz,e];exact⟨v,a.le (hl.resolve_left (by simp[Qoq])),k⟩⟩
  .exact h.elim
 |ldn n x=>
  simp only[OX]at h;split at h <;> rename_i e
  .obtain⟨v,a,b⟩:=h;exact⟨_,b,λ U' K' hl k=>by simp only[OX,Qz,e];exact⟨v,⟨a.1,a.2.le (hl.resolve_left (by simp[Qoq]))⟩,k⟩⟩
  .exact h.elim
 |sidx x i=>
  simp only[OX]at h;split at h
  .rename_i e e';obtain⟨j,v,a,b⟩:=h;exact⟨_,b,λ U' K' hl k=>by simp only[OX,Qz,e,e'];exact⟨j,v,a,k⟩⟩
  .exact h.elim
 |sub3 sz x lo hi=>
  simp only[OX]at h;split at h <;> rename_i e
  .split at h <;> rename_i e'
   .obtain⟨l,hh,a,b⟩:=h;exact⟨_,b,λ U' K' hl k=>by simp only[OX,Qz,e,e'];exact⟨l,hh,a,k⟩⟩
   .exact h.elim
  .exact h.elim
 |build z ps=>
  simp only[OX,Qdj,Array.toArray_toList]at h;split at h <;> rename_i e
  .exact⟨_,h,λ U' K' hl k=>by simp only[OX,Qz,Qdj,Array.toArray_toList,e];exact k⟩
  .exact h.elim
 |cmp op x y=>
  simp only[OX]at h;split at h
  .rename_i e e';obtain⟨hk,h⟩:=h;cases op <;> first|exact h.elim|exact⟨_,h,λ U' K' hl k=>by simp only[OX,Qz,e,e'];exact⟨hk,k⟩⟩
  .exact h.elim
 |beq op x y=>
  simp only[OX]at h;split at h
  .rename_i e e';cases op <;> first|exact h.elim|exact⟨_,h,λ U' K' hl k=>by simp only[OX,Qz,e,e'];exact k⟩
  .exact h.elim
 |teq op x y=>
  simp only[OX]at h;split at h
  .rename_i e e';cases op <;> first|exact h.elim|exact⟨_,h,λ U' K' hl k=>by simp only[OX,Qz,e,e'];exact k⟩
  .exact h.elim
 |ar op x y=>
  simp only[OX]at h;split at h
  .rename_i e e'
   cases op <;> first
    |exact h.elim
    |exact⟨_,h.2.2,λ U' K' hl k=>by simp only[OX,Qz,e,e'];exact⟨h.1,h.2.1,k⟩⟩
    |exact⟨_,h.2,λ U' K' hl k=>by simp only[OX,Qz,e,e'];exact⟨h.1,k⟩⟩
  .exact h.elim
 |add x y=>simp only[OX]at h;split at h;{ rename_i e e';exact⟨_,h.2,λ U' K' hl k=>by simp only[OX,Qz,e,e'];exact⟨h.1,k⟩⟩ };exact h.elim
 |sub x y=>simp only[OX]at h;split at h;{ rename_i e e';exact⟨_,h.2,λ U' K' hl k=>by simp only[OX,Qz,e,e'];exact⟨h.1,k⟩⟩ };exact h.elim
 |mul x y=>simp only[OX]at h;split at h;{ rename_i e e';exact⟨_,h.2,λ U' K' hl k=>by simp only[OX,Qz,e,e'];exact⟨h.1,k⟩⟩ };exact h.elim
 |idx n x y=>simp only[OX]at h;split at h;{ rename_i e e';obtain⟨ad,j,a,b⟩:=h;exact⟨_,b,λ U' K' hl k=>by simp only[OX,Qz,e,e'];exact⟨ad,j,a,k⟩⟩ };exact h.elim
 |aidx n m x y=>simp only[OX]at h;split at h;{ rename_i e e';obtain⟨j,a,b⟩:=h;exact⟨_,b,λ U' K' hl k=>by simp only[OX,Qz,e,e'];exact⟨j,a,k⟩⟩ };exact h.elim
 |_=>
  simp only[OX]at h;split at h <;> rename_i e
  .exact⟨_,h,λ U' K' hl k=>by simp only[OX,Qz,e];exact k⟩
  .exact h.elim
section region
variable{N:Nat}{fn:FuncId}{ro:Option Nat}{mu:List Nat}{ops:Array Oper}
def Zny{todo:List Nat}{Q:Ex->Act->Qa T->Prop}{A:Value->Act}:∀v U U',Qw U U'->Qbm S fn ro ops todo Q (A v) U'->Qbm S fn ro ops todo Q (A v) U:=λ _ _ _ hs h=>Qf4 hs h
inductive Qq5(P:Program)(mu:List Nat)(ops:Array Oper)(o:Oper):St->Prop
 |plain:(∀c,o.op≠.defer c)->o.guard=none->Qq5 P mu ops o ⟨Q9 P mu o,o.dst,none,none⟩
 |guarded {j:Nat} {w:Bool} {d:Nat}:(∀c,o.op≠.defer c)->o.guard=some (j,w)->(ops[j]?).bind (·.dst)=some d->Qq5 P mu ops o ⟨Q9 P mu o,o.dst,some (d,w),none⟩
 |dfr {c:Operand} {args:Array Operand} {ats:Array TypeId}:o.op=.defer { callee:=.value c,args:=args,argTypes:=ats }->o.guard=none->Qq5 P mu ops o ⟨.mv c,o.dst,none,some (c,args)⟩
def Qau{o:Oper}{st:St}(h:Jj P mu ops o=some st):Qq5 P mu ops o st:=by
 unfold Jj at h;split at h
 .rename_i ho hg;cases h;exact .dfr ho hg
 .cases h
 .rename_i hg hnd0 hnd;cases h;exact .plain (λ c hc=>hnd c hc) hg
 .rename_i j w hg hnd;split at h
  .rename_i hd;cases h;exact .guarded (λ c hc=>hnd c hc) hg hd
  .cases h
def Wp{o:Oper}{a:Act}(hg:o.guard=none):Region.wanted o (yielded ops a.tmps)=true:=by simp[Region.wanted,hg]
def Qii{o:Oper}{a:Act}{j:Nat}{w:Bool}{d:Nat}{b:Bool}(hg:o.guard=some (j,w))(hd:(ops[j]?).bind (·.dst)=some d)(hs:a.tmps[d]?=some (.bool b)) :
  Region.wanted o (yielded ops a.tmps)=(b==w):=by
 simp only[Region.wanted,hg,yielded,hd,Option.bind_some,hs];cases b <;> cases w <;> rfl
def Qkh{o:Oper}{N:Nat}{a:Act}{f:Fm}{ds:List Deferred}(hf:FR N a f ds){j:Nat}{w:Bool}{d:Nat}{vs:Array Value}(hg:o.guard=some (j,w))(hd:(ops[j]?).bind (·.dst)=some d)(hs:f d=.tuple vs) :
  Region.wanted o (yielded ops a.tmps)=false:=by
 have:=hf.get d;rw[hs,Array.getD_eq_getD_getElem?]at this
 have hy:yielded ops a.tmps j=none:=by
  simp only[yielded,hd,Option.bind_some];cases hx:a.tmps[d]? with
  |none=>rfl
  |some v=>
   rw[hx]at this;simp only[Option.getD_some]at this;subst this;rfl
 simp only[Region.wanted,hg,hy];cases w <;> rfl
def Qmh{Q:Ex->Act->Qa T->Prop}{n:Zp T}(hQ:∀a f ds U,FR N a f ds->n f ds U->Q .normal a U)(hN:∀(i:Nat)(o:Oper),ops[i]?=some o->∀d,o.dst=some d->d<N) :
  ∀(idxs:List Nat)(l:List St),idxs.mapM (λ i=>(ops[i]?).bind (Jj P mu ops))=some l ->
   ∀(a:Act)(f:Fm)(ds:List Deferred)(U:Qa T),FR N a f ds->OpX S ro l n f ds U->Qbm S fn ro ops idxs Q a U:=by
 intro idxs
 induction idxs with
 |nil=>
  intro l hl a f ds U hf h;simp at hl;subst hl;exact Zoa (hQ a f ds U hf h)
 |cons i idxs ih=>
  intro l hl a f ds U hf h;simp only[mapM_cons,Option.pure_def,Option.bind_eq_bind,Option.bind_eq_some_iff]at hl;obtain⟨st,⟨o,ho,hst⟩,l',hl',e⟩:=hl;cases e;have hd:=hN i o ho
  have step:∀{f:Fm},FR N a f ds->(∀c,o.op≠.defer c)->Region.wanted o (yielded ops a.tmps)=true->OX S (Q9 P mu o) f (λ v U'=>OpX S ro l' n (Qc3 f o.dst v) ds U') U->Qbm S fn ro ops (i::idxs) Q a U:=by
   intro f hf hnd hw h;refine Qc1 ho hw (.inr hnd) (OpQ.opV (W4 (λ x=>hf.eval x) Zny (OX.mono (λ v U' hv=>?_) h)));exact ih l' hl' _ _ _ _ (hf.put o.dst v hd) hv
  cases Qau hst with
  |plain hnd hg=>simp only[Qrr,Zj6]at h;exact step hf hnd (Wp hg) h
  |@guarded j w d hnd hg hdj=>
   simp only[Qrr,Zj6]at h;split at h
   .rename_i b hb;have hw:=Qii (ops:=ops) (o:=o) hg hdj (hf.slot hb);have e:upd f d (.bool b)=f:=Qmt hb;cases b <;> cases w <;> simp only[GB,Bool.not_true,Bool.not_false]at h <;> rw[e]at h
    .exact step hf hnd (by rw[hw];rfl) h
    .exact Qcj ho (by rw[hw];rfl) (ih l' hl' _ _ _ _ (hf.put o.dst undef hd) h)
    .exact Qcj ho (by rw[hw];rfl) (ih l' hl' _ _ _ _ (hf.put o.dst undef hd) h)
    .exact step hf hnd (by rw[hw];rfl) h
   .rename_i vs hb;exact Qcj ho (Qkh hf hg hdj hb) (ih l' hl' _ _ _ _ (hf.put o.dst undef hd) h)
   .exact h.elim
  |@dfr c args ats hop hg=>
   simp only[Qrr,Zj6]at h;split at h
   .rename_i g first capt e
    obtain⟨hro,h⟩:=h;have hee:a.eval=Zl f:=funext hf.eval;refine Qc1 ho (Wp hg) (.inl hro) ?_;unfold OpV;simp only[execOp,hop,Qf,resolve,hee,e,Deferred.ofValue,Qi,Zet];refine⟨hro,ih l' hl' _ _ _ _ ?_ h⟩;have h1:FR N { a with defers:={ target:=.fn g capt,args:=first++args.map (Zl f) }::a.defers } f ({ target:=.fn g capt,args:=first++args.map (Zl f) }::ds):=⟨by rw[hf.ds],hf.size,hf.get⟩;exact h1.put o.dst undef hd
   .exact h.elim
def Ju{U':Qa T}{v:Value}:∀(v':Value)(U2 U3:Qa T),Qw U2 U3->(v'=v/\∃U1,Qw U3 U1/\U'.le U1)->(v'=v/\∃U1,Qw U2 U1/\U'.le U1):=
 λ _ _ _ hs⟨e,U1,h1,h2⟩=>⟨e,U1,hs.trans h1,h2⟩
def Ze7{Fin:Act->Qa T->Prop}{K:Zp T}{U:Qa T}{rl:List Nat}{B:Nat->Nat->Prop}{late:Nat->Bool}{G:Qa T->Prop}{tail:List Nat}{kind:Nat->Nat}(hnil:∀a f ds Cn,FR N a f ds->(∀U',U.le U'->Cn U'->K f ds U')->Qa2 S ops rl B late G U Fin tail Cn a)(hN:∀(i:Nat)(o:Oper),ops[i]?=some o->∀d,o.dst=some d->d<N)
  (hk2:∀i,kind i=0\/kind i=1\/kind i=3->i∉rl) (hk3:∀i,kind i≠0->kind i≠1->kind i≠3->i∈rl) (hk0:∀i,kind i=0->∀o,ops[i]?=some o->stable (Q9 P mu o)=true/\(late i=true->Qoq (Q9 P mu o)=false)) (hk1:∀i,kind i=1->late i=false) :
  ∀(idxs:List Nat)(l:List (Nat×St)),idxs.mapM (λ i=>((ops[i]?).bind (Jj P mu ops)).map λ st=>(kind i,st))=some l->(l.all λ x=>x.2.dfr.isNone)=true->(∀i∈idxs,∀o,ops[i]?=some o->o.guard=none\/i∉rl) ->
   ∀(a:Act)(f:Fm)(ds:List Deferred)(Cn:Qa T->Prop),FR N a f ds->DX S G l Cn K f ds U->Qa2 S ops rl B late G U Fin (idxs++tail) Cn a:=by
 intro idxs
 induction idxs with
 |nil=>
  intro l hl _ _ a f ds Cn hf h;simp at hl;subst hl;exact hnil a f ds Cn hf h
 |cons i idxs ih=>
  intro l hl hnd' hgr a f ds Cn hf h;simp only[mapM_cons,Option.pure_def,Option.bind_eq_bind,Option.bind_eq_some_iff,Option.map_eq_some_iff]at hl;obtain⟨x,⟨st,⟨o,ho,hst⟩,rfl⟩,l',hl',e⟩:=hl;cases e;simp only[all_cons,Bool.and_eq_true]at hnd';have hd:=hN i o ho;have ihx:=ih l' hl' hnd'.2 (λ j hj=>hgr j (mem_cons_of_mem _ hj))
  have run:∀{f:Fm},FR N a f ds->Region.wanted o (yielded ops a.tmps)=true ->
    (match kind i with
     |0=>OX S (Q9 P mu o) f (λ v _=>DX S G l' Cn K (Qc3 f o.dst v) ds U) U
     |1=>∃v,(∀U',U.le U'->Cn U'->OX S (Q9 P mu o) f (λ v' U2=>v'=v/\∃U1,Qw U2 U1/\U'.le U1) U')/\DX S G l' Cn K (Qc3 f o.dst v) ds U
     |3=>∃v,(∀U',U.le U'->Cn U'->OX S (Q9 P mu o) f (λ v' U2=>v'=v/\∃U1,Qw U2 U1/\U'.le U1) U')/\(∀U',G U'->OX S (Q9 P mu o) f (λ v' U2=>v'=v/\∃U1,Qw U2 U1/\U'.le U1) U')/\DX S G l' Cn K (Qc3 f o.dst v) ds U
     |_=>∃F:Value->Qa T->Prop,(∀v,Qwd (F v))/\(∀U',U.le U'->Cn U'->OX S (Q9 P mu o) f (λ v' U2=>∃U1,Qw U2 U1/\F v' U1/\U'.le U1) U') /\
       ∀v,(∃U',U.le U'/\Cn U'/\F v U')->DX S G l' (λ U'=>Cn U'/\F v U') K (Qc3 f o.dst v) ds U)->Qa2 S ops rl B late G U Fin (i::(idxs++tail)) Cn a:=by
   intro f hf hw h;split at h
   .rename_i hk;obtain⟨v,hn,hst⟩:=OX.stable (hk0 i hk o ho).1 h;refine .det v (hk2 i (.inl hk)) ho hw (λ U' hle _=>?_) (λ hlt U' _=>?_) (ihx _ _ _ _ (hf.put o.dst v hd) hn)
    .exact W4 (λ x=>hf.eval x) Ju (hst U' _ (.inr hle) ⟨rfl,U',.refl _,.refl _⟩)
    .exact W4 (λ x=>hf.eval x) Ju (hst U' _ (.inl ((hk0 i hk o ho).2 hlt)) ⟨rfl,U',.refl _,.refl _⟩)
   .rename_i hk;obtain⟨v,hop,hn⟩:=h;refine .det v (hk2 i (.inr (.inl hk))) ho hw (λ U' hle hc=>?_) (λ hlt=>by rw[hk1 i hk]at hlt;cases hlt) (ihx _ _ _ _ (hf.put o.dst v hd) hn);exact W4 (λ x=>hf.eval x) Ju (hop U' hle hc)
   .rename_i hk;obtain⟨v,hop,hop',hn⟩:=h;refine .det v (hk2 i (.inr (.inr hk))) ho hw (λ U' hle hc=>?_) (λ _ U' hg=>?_) (ihx _ _ _ _ (hf.put o.dst v hd) hn)
    .exact W4 (λ x=>hf.eval x) Ju (hop U' hle hc)
    .exact W4 (λ x=>hf.eval x) Ju (hop' U' hg)
   .rename_i h0 h1 h3;obtain⟨F,hF,hop,hn⟩:=h;refine .rel F (hk3 i (λ e=>h0 e) (λ e=>h1 e) (λ e=>h3 e)) hF ho hw (λ U' hle hc=>?_) (λ v hv=>ihx _ _ _ _ (hf.put o.dst v hd) (hn v hv));exact W4 (λ x=>hf.eval x) (λ v' U2 U3 hs⟨U1,a,b,c⟩=>⟨U1,hs.trans a,b,c⟩) (hop U' hle hc)
  cases Qau hst with
  |plain hnd hg=>simp only[Zep,DX1]at h;exact run hf (Wp hg) h
  |@guarded j w d hnd hg hdj=>
   simp only[Zep,DX1]at h;have hrl:i∉rl:=(hgr i (mem_cons_self ..) o ho).resolve_left (by rw[hg];simp);split at h
   .rename_i b hb;have hw:=Qii (ops:=ops) (o:=o) hg hdj (hf.slot hb);have e:upd f d (.bool b)=f:=Qmt hb;cases b <;> cases w <;> simp only[GB,Bool.not_true,Bool.not_false]at h <;> rw[e]at h
    .exact run hf (by rw[hw];rfl) h
    .exact .un hrl ho (by rw[hw];rfl) (ihx _ _ _ _ (hf.put o.dst undef hd) h)
    .exact .un hrl ho (by rw[hw];rfl) (ihx _ _ _ _ (hf.put o.dst undef hd) h)
    .exact run hf (by rw[hw];rfl) h
   .rename_i vs hb;exact .un hrl ho (Qkh hf hg hdj hb) (ihx _ _ _ _ (hf.put o.dst undef hd) h)
   .exact h.elim
  |dfr=>simp at hnd'
end region
def Qxn(N:Nat)(n:Zp T)(x:Nat->Zp T)(r:Zp T)(e:Ex)(a:Act)(U:Qa T):Prop:=
 ∃f ds,FR N a f ds/\(match e with|.normal=>n f ds U|.exit i=>x i f ds U|.ret=>r f ds U)
def Qa2.fin{ops:Array Oper}{rl:List Nat}{B:Nat->Nat->Prop}{late:Nat->Bool}{G:Qa T->Prop}{U:Qa T}{Fin Fin':Act->Qa T->Prop}(hF:∀a U,Fin a U->Fin' a U){l:List Nat}{Cn:Qa T->Prop}{a:Act}(h:Qa2 S ops rl B late G U Fin l Cn a):Qa2 S ops rl B late G U Fin' l Cn a:=by
 induction h with
 |nil h=>exact .nil λ U' a b=>hF _ _ (h U' a b)
 |un a b c _ ih=>exact .un a b c ih
 |det v a b c d e _ ih=>exact .det v a b c d e ih
 |rel F a b c d e _ ih=>exact .rel F a b c d e ih
 |last a b c d e f g=>exact .last a b c d e f λ hx U' h=>hF _ _ (g hx U' h)
section code
variable{N:Nat}{fn:FuncId}{ro:Option Nat}{mu dets:List Nat}
def Znh{G:Type}{c:Code}{Q:Ex->Act->Qa T->Prop}(I:G->Act->Qa T->Prop)(μ:G->Nat){g:G}{a:Act}{U:Qa T}(h_0:I g a U)
  (round:∀g a U,I g a U->Zu S fn ro c (λ e a' U'=>match e with|.normal=>∃g',I g' a' U'/\μ g'<μ g|e=>Q e a' U') a U):Zu S fn ro (.loop c) Q a U:=by
 intro Stop m b k cs hb hc;refine .still rfl (λ _=>Zq1) ?_
 have key:∀N g a U,μ g<=N->I g a U->J S Stop m (R b a (.code c::.inLoop c::k) cs) U:=by
  intro N
  induction N with
  |zero=>
   intro g a U hμ hI;refine round g a U hI Stop m b (.inLoop c::k) cs hb λ e a' U' q=>?_;cases e with
   |normal=>obtain⟨g',_,hlt⟩:=q;exact absurd hlt (by omega)
   |exit id=>exact(hc _ _ _ q).push (λ _ _=>rfl) (by simp)
   |ret=>exact(hc _ _ _ q).push (x:=.inLoop c) (λ _ _=>rfl) (by simp)
  |succ N ih=>
   intro g a U hμ hI;refine round g a U hI Stop m b (.inLoop c::k) cs hb λ e a' U' q=>?_;cases e with
   |normal=>obtain⟨g',hI',hlt⟩:=q;exact .still rfl (λ _=>Zjm) (ih g' a' U' (by omega) hI')
   |exit id=>exact(hc _ _ _ q).push (λ _ _=>rfl) (by simp)
   |ret=>exact(hc _ _ _ q).push (x:=.inLoop c) (λ _ _=>rfl) (by simp)
 exact key _ g a U (Nat.le_refl _) h_0
def Zqb{ops:Array Oper}(h:ops.all (inB N)=true):∀(i:Nat)(o:Oper),ops[i]?=some o->∀d,o.dst=some d->d<N:=by
 intro i o ho d hd;have:=(Array.all_eq_true'.1 h) o (Array.mem_of_getElem? ho);simpa[inB,hd]using this
def Q1i(hm:P.follows .mixedOrders=true){id:Nat}{ops:Array Oper}{d:Bool}{n:Zp T}{x:Nat->Zp T}{r:Zp T}{f:Fm}{ds:List Deferred}{U:Qa T}{a:Act}(hf:FR N a f ds)
  (h:wpC S fn ro (Qh3 P mu N dets ops d) n x r f ds U):Zu S fn ro (.region id ops d) (Qxn N n x r) a U:=by
 unfold Qh3 at h;split at h
 .exact h.elim
 .rename_i hall;have hN:=Zqb (N:=N) (ops:=ops) (by simpa using hall);have hQ:∀a f ds U,FR N a f ds->n f ds U->Qxn N n x r .normal a U:=λ a f ds U hf h=>⟨f,ds,hf,h⟩;split at h
  .split at h
   .rename_i l hl;exact Qy7 (Qmh hQ hN _ l hl a f ds U hf h)
   .exact h.elim
  .dsimp only at h
   split at h
   .exact h.elim
   .rename_i hok;simp only[Bool.or_eq_true,Bool.not_eq_true',not_or,Bool.not_eq_false]at hok;obtain⟨hok,hgr⟩:=hok;split at h
    .rename_i x st hx;split at h
     .rename_i la lb hla hlb;split at h
      .rename_i hdf;obtain⟨G,hG,h⟩:=h;simp only[Option.bind_eq_some_iff]at hx;obtain⟨x',hlast,st',⟨o,ho,hst⟩,hx⟩:=hx;split at hx
       .rename_i hc;cases hx;simp only[Bool.and_eq_true,contains_iff_mem,Option.isNone_iff_eq_none]at hc;obtain⟨⟨⟨hxr,hss⟩,hsg⟩,hsd⟩:=hc;refine Q5m (late:=Zfg ops x) (G:=G) _ _ _ hm hok ?_;refine Qa2.fin (Fin:=λ a U=>∃f ds,FR N a f ds/\OpX S ro lb n f ds U) (λ a U⟨f,ds,hf,h⟩=>Qmh hQ hN _ lb hlb a f ds U hf h) ?_
        obtain⟨hg,rfl⟩:o.guard=none/\st=⟨Q9 P mu o,o.dst,none,none⟩:=by
         cases Qau hst with
         |plain _ hg=>exact⟨hg,rfl⟩
         |guarded=>cases hsg
         |dfr=>cases hsd
        have hq:Qv0 ops (Qdm P mu dets ops) ops.size (range (Qab ops ops.size)) []=(Qv0 ops (Qdm P mu dets ops) ops.size (range (Qab ops ops.size)) []).dropLast++[x]:=by
         rw[getLast?_eq_some_iff]at hlast;obtain⟨ys,hys⟩:=hlast;rw[hys];simp
        rw[hq];refine Ze7 (S:=S) (mu:=mu) (tail:=[x]) (K:=Zrs S G ⟨Q9 P mu o,o.dst,none,none⟩ (OpX S ro lb n)) (λ a f ds Cn hf h=>.last hxr hG (λ j hj=>?_) ho (Wp hg) (λ U' hle hc=>?_) (λ hx U'' hg=>?_)) hN ?_ ?_ ?_ ?_ _ la hla hdf ?_ a f ds _ hf h
        .refine Wr ops ops.size x j ?_;simpa[Zfg]using hj
        .exact W4 (λ x=>hf.eval x) (λ v' U2 U3 hs⟨e,U1,a,b⟩=>⟨e,U1,hs.trans a,b⟩) (h U' hle hc).1
        .obtain⟨U',hle,hc⟩:=hx;exact⟨_,_,hf.put o.dst undef (hN x o ho),(h U' hle hc).2 U'' hg⟩
        .intro i hi hc;have hc':=contains_iff_mem.2 hc;simp only[Q50,hc',if_true]at hi;rcases hi with hi|hi|hi <;> cases hi
        .intro i h0 h1 h3;apply Classical.byContradiction;intro hc
         have hc':(List.filter (Qdm P mu dets ops) (range (Qab ops ops.size))).contains i=false:=by
          cases hcc:(List.filter (Qdm P mu dets ops) (range (Qab ops ops.size))).contains i with
          |false=>rfl
          |true=>exact absurd (contains_iff_mem.1 hcc) hc
         simp only[Q50,hc',Bool.false_eq_true,if_false]at h0 h1 h3;cases ho:ops[i]? with
         |none=>simp[ho]at h3
         |some o=>
          simp only[ho]at h0 h1 h3;split at h0
          .exact h0 rfl
          .rename_i hh;simp only[hh,Bool.false_eq_true,if_false]at h1 h3;split at h1
           .rename_i hl;simp[hl]at h3
           .exact h1 rfl
        .intro i h0 o ho;simp only[Q50]at h0;split at h0
         .cases h0
         .simp only[ho]at h0;split at h0
          .rename_i hh;simp only[Bool.and_eq_true,Bool.or_eq_true,Bool.not_eq_true']at hh;exact⟨hh.1,λ hl=>hh.2.resolve_right (by rw[hl];simp)⟩
          .split at h0 <;> cases h0
        .intro i h1;simp only[Q50]at h1;split at h1
         .cases h1
         .split at h1
          .split at h1
           .cases h1
           .split at h1
            .cases h1
            .rename_i hl;simpa using hl
          .cases h1
        .intro i _ o ho;by_cases hc:i∈List.filter (Qdm P mu dets ops) (range (Qab ops ops.size))
         .refine .inl ?_;have:=all_eq_true.1 hgr i hc;simpa[ho]using this
         .exact .inr hc
       .cases hx
      .exact h.elim
     .exact h.elim
    .split at h
     .rename_i la lb hla hlb;split at h
      .rename_i hdf;refine Q5m (late:=λ _=>false) (G:=λ _=>False) _ _ _ hm hok ?_;refine Qa2.fin (Fin:=λ a U=>∃f ds,FR N a f ds/\OpX S ro lb n f ds U) (λ a U⟨f,ds,hf,h⟩=>Qmh hQ hN _ lb hlb a f ds U hf h) ?_;have key:=Ze7 (S:=S) (mu:=mu) (rl:=List.filter (Qdm P mu dets ops) (range (Qab ops ops.size))) (B:=Qbo ops) (late:=λ _=>false) (G:=λ _=>False) (tail:=[]) (Fin:=λ a U=>∃f ds,FR N a f ds/\OpX S ro lb n f ds U) (K:=OpX S ro lb n) (U:=U) (λ a f ds Cn hf h=>.nil λ U' hle hc=>⟨f,ds,hf,h U' hle hc⟩) hN ?_ ?_ ?_ (λ _ _=>rfl) _ la hla hdf ?_ a f ds (λ _=>True) hf h
       .simpa using key
       .intro i hi hc;have hc':=contains_iff_mem.2 hc;simp only[Q08,hc',if_true]at hi;rcases hi with hi|hi|hi <;> cases hi
       .intro i h0 h1 h3;apply Classical.byContradiction;intro hc
        have hc':(List.filter (Qdm P mu dets ops) (range (Qab ops ops.size))).contains i=false:=by
         cases hcc:(List.filter (Qdm P mu dets ops) (range (Qab ops ops.size))).contains i with
         |false=>rfl
         |true=>exact absurd (contains_iff_mem.1 hcc) hc
        simp only[Q08,hc',Bool.false_eq_true,if_false]at h0 h1;cases ho:ops[i]? with
        |none=>simp[ho]at h1
        |some o=>
         simp only[ho]at h0 h1;by_cases hs:stable (Q9 P mu o)=true <;> simp[hs]at h0 h1
       .intro i h0 o ho;simp only[Q08]at h0;split at h0
        .cases h0
        .simp only[ho]at h0;by_cases hs:stable (Q9 P mu o)=true
         .exact⟨hs,λ h=>by cases h⟩
         .simp[hs]at h0
       .intro i _ o ho;by_cases hc:i∈List.filter (Qdm P mu dets ops) (range (Qab ops ops.size))
        .refine .inl ?_;have:=all_eq_true.1 hgr i hc;simpa[ho]using this
        .exact .inr hc
      .exact h.elim
     .exact h.elim
def Qc9(hm:P.follows .mixedOrders=true):∀(code:Code){n:Zp T}{x:Nat->Zp T}{r:Zp T}{f:Fm}{ds:List Deferred}{U:Qa T}{a:Act},FR N a f ds->wpC S fn ro (clean P mu N dets code) n x r f ds U ->
  Zu S fn ro code (Qxn N n x r) a U:=by
 intro code
 induction code with
 |skip=>exact λ hf h=>Zpz ⟨_,_,hf,h⟩
 |label l=>exact λ hf h=>Zng ⟨_,_,hf,h⟩
 |region id ops d=>
  intro n x r f ds U a hf h;simp only[clean]at h
  have cd:wpC S fn ro (.cd N (.region id ops d)) n x r f ds U->Zu S fn ro (.region id ops d) (Qxn N n x r) a U:=λ h=>by
   refine Zu.mono (h a hf) λ e a' U'⟨ht,f',hf',hp⟩=>⟨f',a'.defers,⟨rfl,by rw[ht];exact hf.size,hf'⟩,?_⟩;cases e <;> exact hp
  split at h
  .exact cd h
  .split at h
   .exact cd h
   .exact Q1i hm hf h
 |seq c_1 c_2 ih1 ih2=>
  intro n x r f ds U a hf h;refine Zsb (Zu.mono (ih1 hf h) λ e a' U' hp=>?_);obtain⟨f',ds',hf',hp⟩:=hp;cases e with
  |normal=>exact ih2 hf' hp
  |exit i=>exact⟨f',ds',hf',hp⟩
  |ret=>exact⟨f',ds',hf',hp⟩
 |cond c c_1 c_2 ih1 ih2=>
  intro n x r f ds U a hf h
  replace h:Zse c (wpC S fn ro (clean P mu N dets c_1) n x r) (wpC S fn ro (clean P mu N dets c_2) n x r) f ds U:=h
  unfold Zse at h;split at h
  .rename_i t ht;refine Zpy t (by rw[hf.eval];exact ht) ?_;cases t
   .exact ih2 hf h
   .exact ih1 hf h
  .exact h.elim
 |block id c ih=>
  intro n x r f ds U a hf h;refine Znf (Zu.mono (ih hf h) λ e a' U' hp=>?_);obtain⟨f',ds',hf',hp⟩:=hp;cases e with
  |normal=>exact⟨f',ds',hf',hp⟩
  |exit i=>
   simp only at hp ⊢;by_cases e:i=id
   .subst e;have:Nat.beq i i=true:=by simp
    rw[this]at hp;rw[if_pos rfl];exact⟨f',ds',hf',hp⟩
   .have:Nat.beq i id=false:=by cases hb:Nat.beq i id with|false=>rfl|true=>exact absurd (Nat.eq_of_beq_eq_true hb) e
    rw[this]at hp;rw[if_neg e];exact⟨f',ds',hf',hp⟩
  |ret=>exact⟨f',ds',hf',hp⟩
 |loop c ih=>
  intro n x r f ds U a hf h;obtain⟨α,L,I,μ,x_0,he,hI,hr⟩:=h;refine Znh (G:=α) (λ y a U=>∃f,FR N a (ovr (L y) f) ds/\I y U) μ (g:=x_0) ⟨f,by rw[he.ovr];exact hf,hI⟩ λ y a U⟨f,hf,hI⟩=>?_;refine Zu.mono (ih hf (hr y f U hI)) λ e a' U' hp=>?_;obtain⟨f',ds',hf',hp⟩:=hp;cases e with
  |normal=>
   obtain⟨rfl,y',he',hI',hlt⟩:=hp;exact⟨y',⟨f',by rw[he'.ovr];exact hf',hI'⟩,hlt⟩
  |exit i=>exact⟨f',ds',hf',hp⟩
  |ret=>exact⟨f',ds',hf',hp⟩
 |rangeFunc c params assign body _ _=>
  intro n x r f ds U a hf h;refine Zu.mono (h _ _ rfl rfl a hf) λ e a' U'⟨ht,hp⟩=>⟨f,a'.defers,⟨rfl,by rw[ht];exact hf.size,λ t=>by rw[ht];exact hf.get t⟩,?_⟩;cases e <;> exact hp
 |exit id=>exact λ hf h=>Ze4 ⟨_,_,hf,h⟩
 |scope c ih=>exact λ hf h=>Znj (ih hf h)
 |goto l=>exact λ _ h=>h.elim
 |ret=>exact λ hf h=>Zni ⟨_,_,hf,h⟩
 |refuse w=>exact λ _ h=>h.elim
end code
def fm(args:List Value):Fm:=λ t=>args.getD t undef
def Qo(b o n:Nat):(Addr.mk b o none).add n=⟨b,o+n,none⟩:=by
 simp only[Addr.add];split
 .rename_i h;subst h;rfl
 .rfl
def Zpq(a:Addr)(h:a.spot=none)(m n:Nat):(a.add m).add n=a.add (m+n):=by
 obtain⟨b,o,s⟩:=a;cases h;rw[Qo,Qo,Qo,Nat.add_assoc]
def Zd.sees{U:Qa T}{b o:Nat}{c:Array Value}{v:Value}(h:Zd U b c)(hv:c[o]?=some v):U.sees ⟨b,o,none⟩ v:=by
 obtain⟨t,fr,h⟩:=h;exact⟨rfl,.inl ⟨c,t,fr,.inl h,hv⟩⟩
def Zd.le{U U':Qa T}{b:Nat}{c:Array Value}(h:Zd U b c)(hl:U.le U'):Zd U' b c:=let ⟨t,fr,h⟩:=h;⟨t,fr,hl.imm _ _ h⟩
def Zd.reads{U:Qa T}{b o:Nat}{c:Array Value}{vs:List Value}(h:Zd U b c)(hv:∀i v,vs[i]?=some v->c[o+i]?=some v):Z7 U ⟨b,o,none⟩ vs:=by
 intro i v hi;rw[Qo];exact h.sees (hv i v hi)
def Q6p{U U':Qa T}(h:U.le U'):Qw U' U:=by
 refine⟨h.tok.symm,λ w ok=>⟨⟨λ b o e=>ok.imm b o (h.imm b o e),λ r hr=>ok.held r (h.own▸hr),h.own▸ok.apart,λ r hr=>?_⟩,λ l hl=>?_,λ l hl=>?_⟩⟩
 .have:=ok.sep r (h.own▸hr);cases e:U.I r.blk with
  |none=>rfl
  |some o=>rw[h.imm _ _ e]at this;cases this
 .rw[Q6]at hl ⊢;rw[h.own];exact hl
 .rw[Qy]at hl ⊢;rw[h.own];refine hl.imp id λ hl=>?_;cases l with
  |cell a=>obtain⟨c,t,fr,hc,hlt⟩:=hl;exact⟨c,t,fr,h.imm _ _ hc,hlt⟩
  |obj b=>obtain⟨o,ho⟩:=hl;exact⟨o,h.imm _ _ ho⟩
  |output=>exact hl
  |goroutines=>exact hl
  |mark _=>exact hl
def Qb.pure{f:FuncId}{args:Array Value}{U:Qa T}{Q:Value->Prop}(h:Qb S f args (λ v U'=>Q v/\U.le U') U):Qb S f args (λ v U'=>Q v/\U'=U) U:=
 h.post λ _ _⟨q,hl⟩=>⟨U,Q6p hl,q,rfl⟩
end Go.TM
namespace Go.TM
def Qe8(id:Nat):Code->Option Code
 |.region i ops d=>if i=id then some (.region i ops d)else none
 |.seq a b=>(Qe8 id a).or (Qe8 id b)
 |.cond _ a b=>(Qe8 id a).or (Qe8 id b)
 |.block _ b=>Qe8 id b
 |.loop b=>Qe8 id b
 |.scope b=>Qe8 id b
 |.rangeFunc _ _ a b=>(Qe8 id a).or (Qe8 id b)
 |_=>none
def Zji(fd:Func)(id:Nat):Code:=(fd.body.bind (Qe8 id)).getD .skip
def Q6m(fd:Func)(id:Nat):Array Oper:=match Zji fd id with
 |.region _ ops _=>ops
 |_=>#[]
variable{T:Type}{P:Program}{S:Sys P T}
inductive RV where
 |t (n:Nat)
 |c (a:Nat)
 |cn (a n:Nat)
def Qxd(P:Program):ResultVar->Option RV
 |.tmp t=>some (.t t)
 |.cell a t=>match P.underlying t with
  |some d=>if TypeDesc.agg d then(Jw P t).map (.cn a)else some (.c a)
  |none=>none
def Zqm(acc:List Value):Value:=match acc with|[v]=>v|l=>.tuple l.reverse.toArray
def Zqk(acc:List Value)(K:Value->Prop):Prop:=match acc with|[v]=>K v|l=>K (.tuple l.reverse.toArray)
def Zql(acc:List Value)(K:Value->Prop):Zqk acc K=K (Zqm acc):=by
 unfold Zqk Zqm;split <;> simp_all
def Q13(f:Fm)(Q:Value->Qa T->Prop)(x:RV)(ih:List Value->Qa T->Prop)(acc:List Value)(U:Qa T):Prop:=
 match x with
 |.t t=>Qe1 (f t) λ v=>ih (v::acc) U
 |.c a=>match f a with|.pointer (some ad)=>∃v,U.sees ad v/\Qe1 v λ v=>ih (v::acc) U|_=>False
 |.cn a n=>match f a with|.pointer (some ad)=>∃vs:List Value,(vs.length=n/\Z7 U ad vs)/\ih (.agg vs.toArray::acc) U|_=>False
def Q66(f:Fm)(Q:Value->Qa T->Prop)(l:List RV):List Value->Qa T->Prop:=
 List.rec (motive:=λ _=>List Value->Qa T->Prop) (λ acc U=>Zqk acc λ v=>Q v U) (λ x _ ih=>Q13 f Q x ih) l
def Qmv(f:Fm)(Q:Value->Qa T->Prop)(x:RV)(r:List RV):Q66 f Q (x::r)=Q13 f Q x (Q66 f Q r):=rfl
def Zoe(acc:List Value):Value:=if h:acc.reverse.toArray.size=1 then acc.reverse.toArray[0]else .tuple acc.reverse.toArray
def Zjh(acc:List Value):Zqm acc=Zoe acc:=by
 unfold Zoe Zqm
 match acc with
 |[]=>rfl
 |[v]=>rfl
 |a::b::r=>rw[dif_neg (by simp)]
def Zee{fd:Func}{Q:Value->Qa T->Prop}{f:Fm}{tmps:Array Value}(ht:∀t,tmps.getD t undef=f t) :
  ∀(l:List ResultVar)(rl:List RV),l.mapM (Qxd P)=some rl->∀(acc:List Value)(U:Qa T),Q66 f Q rl acc U->Qr P (Qgw (λ x=>match x with
   |ResultVar.tmp t=>pure (tmps.getD t undef)
   |ResultVar.cell a t=>do loadVar t (<- asAddr (tmps.getD a undef))) l acc.reverse.toArray) (λ vs U=>Qr P (pure (if h:vs.size=1 then vs[0]else .tuple vs):Sem Value) Q U) U:=by
 intro l
 induction l with
 |nil=>
  intro rl h acc U hq;simp at h;subst h
  replace hq:Zqk acc (λ v=>Q v U):=hq
  rw[Zql]at hq;rw[Zjh]at hq;exact hq
 |cons x l ih=>
  intro rl h acc U hq;simp only[mapM_cons,Option.pure_def,Option.bind_eq_bind,Option.bind_eq_some_iff]at h;obtain⟨rv,hrv,rl',hrl',e⟩:=h;cases e;have push:∀v:Value,acc.reverse.toArray.push v=(v::acc).reverse.toArray:=λ v=>by apply Array.ext';simp
  cases x with
  |tmp t=>
   simp only[Qxd,Option.some.injEq]at hrv;subst hrv;simp only[Qmv,Q13,Qz]at hq;simp only[Qgw];rw[Qf,ht,Qi,push];exact ih _ hrl' _ _ hq
  |cell a t=>
   simp only[Qgw];rw[Qf,Qf,ht];simp only[Qxd]at hrv;split at hrv
   .rename_i d hd;split at hrv
    .rename_i hag;simp only[Option.map_eq_some_iff]at hrv;obtain⟨n,hn,rfl⟩:=hrv;obtain⟨inf,hi,hsz⟩:=Qa0 hn;simp only[Qmv,Q13]at hq;split at hq
     .rename_i ad e;obtain⟨vs,⟨hl,hr⟩,hq⟩:=hq;rw[e];simp only[asAddr,Qi,loadVar,Qf,Qif hd,hag,if_true,Jh hi,hsz,<- hl];refine hr.cells ?_;simp only[Qi,push];exact ih _ hrl' _ _ hq
     .exact hq.elim
    .rename_i hag;cases hrv;simp only[Qmv,Q13]at hq;split at hq
     .rename_i ad e;obtain⟨v,hs,hq⟩:=hq;rw[Qz]at hq;rw[e];simp only[asAddr,Qi,loadVar,Qf,Qif hd,hag,Bool.false_eq_true,if_false];refine Q1r hs ?_;rw[push];exact ih _ hrl' _ _ hq
     .exact hq.elim
   .cases hrv
def Zr4(rl:List RV)(Q:Value->Qa T->Prop)(f:Fm)(l:List Deferred):Qa T->Prop:=
 List.rec (motive:=λ _=>Qa T->Prop) (λ U=>Q66 f Q rl [] U) (λ d _ ih U=>match d.target with
  |.collected b=>∃M',J4 b (.deferred none) (.deferred (some [])) U.M M'/\ih { U with M:=M' }
  |_=>False) l
def J4.mem{b:Nat}{o' o:Obj}{M M':List Qv}(h:J4 b o' o M M'):Qv.obj b o∈M:=by
 induction h with
 |here=>exact mem_cons_self ..
 |there _ ih=>exact mem_cons_of_mem _ ih
def Qgg{fd:Func}{rl:List RV}(hr:fd.results.toList.mapM (Qxd P)=some rl){Q:Value->Qa T->Prop}{f:Fm}:∀(ds:List Deferred)(U:Qa T),Zr4 rl Q f ds U ->
  ∀tmps:Array Value,(∀t,tmps.getD t undef=f t)->Qqh P fd Q tmps ds U
 |[],U,h,tmps,ht=>by
  have hres:fd.results=fd.results.toList.toArray:=rfl;simp only[Qqh,results];rw[hres,Qf,Q1b];exact Zee (fd:=fd) ht _ _ hr [] U h
 |⟨tg,args⟩::ds,U,h,tmps,ht=>by
  cases tg with
  |collected b=>
   obtain⟨M',hu,h⟩:=h;simp only[Qqh,Instr.takeDeferred,Qf,getObj];refine⟨_,.inr hu.mem,rfl,rfl,?_⟩;simp only[Qr,Qf,setObj];exact⟨_,M',hu,rfl,rfl,rfl,rfl,Qgg hr ds _ h tmps ht⟩
  |_=>exact h.elim
structure Q5(P:Program)(g:FuncId)(N:Nat)(cc:C)(rl:List RV):Prop where
 ok:∃fd mu dets,P.funcs[g]?=some fd/\fd.body=some (fd.body.getD .skip)/\clean P mu fd.ntmps dets (fd.body.getD .skip)=cc/\fd.ntmps=N/\fd.results.toList.mapM (Qxd P)=some rl/\(fd.name != "runtime.NumGoroutine")=true
def Q5.mk'{g:FuncId}{N:Nat}{cc:C}{rl:List RV}{fd:Func}(mu dets:List Nat)(hf:P.funcs[g]?=some fd)(hb:fd.body.isSome=true)(hc:clean P mu fd.ntmps dets (fd.body.getD .skip)=cc)(hN:fd.ntmps=N)
  (hr:fd.results.toList.mapM (Qxd P)=some rl) (hn:(fd.name != "runtime.NumGoroutine")=true):Q5 P g N cc rl:=
 ⟨fd,mu,dets,hf,by cases h:fd.body with|none=>rw[h]at hb;cases hb|some c=>rfl,hc,hN,hr,hn⟩
def Q5.o{g:FuncId}{N:Nat}{cc:C}{rl:List RV}{fd:Func}(mu dets:List Nat)(hf:P.funcs[g]?=some fd)(h:(fd.body.isSome,clean P mu fd.ntmps dets (fd.body.getD .skip),fd.ntmps,fd.results.toList.mapM (Qxd P),(fd.name != "runtime.NumGoroutine"))=(true,cc,N,some rl,true)):Q5 P g N cc rl:=by
 obtain⟨h1,h2,h3,h4,h5⟩:=(by simpa only[Prod.mk.injEq]using h:_/\_/\_/\_/\_);exact .mk' mu dets hf h1 h2 h3 h4 h5
def Q5.any{g:FuncId}{N:Nat}{cc:C}{rl:List RV}(k:Q5 P g N cc rl):(P.funcs[g]?.any λ fd=>fd.body.isSome&&fd.name != "runtime.NumGoroutine")=true:=by
 obtain⟨fd,mu,dets,hf,hb,-,-,-,hn⟩:=k.ok;rw[hf,Option.any_some,hn,hb];rfl
def Qb.of{g:FuncId}{N:Nat}{cc:C}{rl:List RV}(k:Q5 P g N cc rl)(hm:P.follows .mixedOrders=true){args:List Value}(hn:args.length<=N){U:Qa T}{Q:Value->Qa T->Prop}
  (h:wpC S g none cc (λ f ds U=>Zr4 rl Q f ds U) (λ _ _ _ _=>False) (λ f ds U=>Zr4 rl Q f ds U) (fm args) [] U):Qb S g args.toArray Q U:=by
 obtain⟨fd,mu,dets,hf,hb,hc,rfl,hr,-⟩:=k.ok;refine Qb.of_body hf hb ?_
 have hfr:FR fd.ntmps { tmps:=args.toArray++Array.replicate (fd.ntmps-args.toArray.size) undef,defers:=[] } (fm args) []:=by
  refine⟨rfl,by simp;omega,λ t=>?_⟩;simp only[fm,Array.getD_eq_getD_getElem?,getD_eq_getElem?_getD,Array.getElem?_append,size_toArray,getElem?_toArray];split
  .rfl
  .rename_i hlt;rw[getElem?_eq_none (by omega),Array.getElem?_replicate];split <;> rfl
 subst hc;refine Zu.mono (Qc9 hm _ hfr h) λ e a U hp=>?_;obtain⟨f',ds',hf',hp⟩:=hp;cases e with
 |normal=>have:=Qgg hr _ _ hp a.tmps hf'.get;simpa only[Zm8,hf'.ds]using this
 |exit i=>exact hp.elim
 |ret=>have:=Qgg hr _ _ hp a.tmps hf'.get;simpa only[Zm8,hf'.ds]using this
abbrev St.xz(d a b t:Nat):St:=.d d (.raw { dst:=none,op:=(.call { callee:=.builtin .append,args:=#[.tmp a,.tmp b],argTypes:=#[t,t] }),type:=t,pos:= "",after:=#[],guard:=none })
abbrev St.xo(d k t:Nat):St:=.d d (.off k (.tmp t))
abbrev St.xl(d t:Nat):St:=.d d (.ld (.tmp t))
abbrev St.xi(d n a b:Nat):St:=.d d (.idx n (.tmp a) (.tmp b))
abbrev St.xn(d t:Nat):St:=.d d (.len (.tmp t))
abbrev St.xc(d:Nat)(o:BinOp)(a b:Nat):St:=.d d (.cmp o (.tmp a) (.tmp b))
abbrev St.xk(d:Nat)(o:BinOp)(a:Nat)(n:Int):St:=.d d (.cmp o (.tmp a) (.ci n))
abbrev St.xa(d t:Nat):St:=.d d (.add (.tmp t) (.ci 1))
abbrev St.xe(d t i:Nat):St:=.d d (.ext (.tmp t) i)
abbrev St.xd(d n t:Nat):St:=.d d (.ldn n (.tmp t))
abbrev St.xt(d t:Nat):St:=.d d (.not (.tmp t))
abbrev St.xv(d:Nat)(n:Int):St:=.d d (.mv (.ci n))
abbrev St.xb(d:Nat)(b:Bool):St:=.d d (.mv (.cb b))
abbrev St.xs(d:Nat):St:=.d d (.mv .cn)
abbrev St.xp(d a b:Nat):St:=.d d (.pick (.tmp a) (.tmp b) (.cb false))
abbrev St.xq(d a b:Nat):St:=.d d (.pick (.tmp a) (.cb true) (.tmp b))
abbrev St.yo(d g:Nat)(p:Bool)(k t:Nat):St:=.u d g p (.off k (.tmp t))
abbrev St.yl(d g:Nat)(p:Bool)(t:Nat):St:=.u d g p (.ld (.tmp t))
abbrev St.yi(d g:Nat)(p:Bool)(n a b:Nat):St:=.u d g p (.idx n (.tmp a) (.tmp b))
abbrev St.yn(d g:Nat)(p:Bool)(t:Nat):St:=.u d g p (.len (.tmp t))
abbrev St.ym(d g:Nat)(p:Bool)(t:Nat):St:=.u d g p (.mv (.tmp t))
abbrev St.yk(d g:Nat)(p:Bool)(o:BinOp)(a:Nat)(n:Int):St:=.u d g p (.cmp o (.tmp a) (.ci n))
end Go.TM
namespace Go.TM
variable{T:Type}{P:Program}{S:Sys P T}
def Z3(U:Qa T)(a:Option Addr)(len:Nat)(l:List Int):Prop:=l.length=len/\∀i x,l[i]?=some x->∃ad,a=some ad/\ad.spot=none/\U.sees (ad.add (i*1)) (.int .i64 x)
def Qx(U:Qa T)(a:Option Addr)(len n:Nat){α:Type}(l:List α)(R:α->List Value->Prop):Prop:=
 l.length=len/\∀i x,l[i]?=some x->∃ad vs,a=some ad/\ad.spot=none/\R x vs/\vs.length=n/\Z7 U (ad.add (i*n)) vs
def Z3.le{U U':Qa T}{a:Option Addr}{len:Nat}{l:List Int}(h:Z3 U a len l)(hl:U.le U'):Z3 U' a len l:=
 ⟨h.1,λ i x hx=>let ⟨ad,e,hs,hv⟩:=h.2 i x hx;⟨ad,e,hs,hv.le hl⟩⟩
def Qx.le{U U':Qa T}{a:Option Addr}{len n:Nat}{α:Type}{l:List α}{R R':α->List Value->Prop}(h:Qx U a len n l R)(hl:U.le U')(hR:∀x vs,R x vs->R' x vs):Qx U' a len n l R':=
 ⟨h.1,λ i x hx=>let ⟨ad,vs,e,hs,hr,hn,hv⟩:=h.2 i x hx;⟨ad,vs,e,hs,hR _ _ hr,hn,hv.le hl⟩⟩
def Z3.at{U:Qa T}{a:Option Addr}{len:Nat}{l:List Int}(h:Z3 U a len l){i:Nat}(hi:i<len):∃ad x,l[i]?=some x/\a=some ad/\ad.spot=none/\U.sees (ad.add (i*1)) (.int .i64 x):=by
 have hlt:i<l.length:=by rw[h.1];exact hi
 obtain⟨ad,e,hs,hv⟩:=h.2 i l[i] (by simp);exact⟨ad,l[i],by simp,e,hs,hv⟩
def Qx.at{U:Qa T}{a:Option Addr}{len n:Nat}{α:Type}{l:List α}{R:α->List Value->Prop}(h:Qx U a len n l R){i:Nat}(hi:i<len) :
  ∃ad x vs,l[i]?=some x/\a=some ad/\ad.spot=none/\R x vs/\vs.length=n/\Z7 U (ad.add (i*n)) vs:=by
 have hlt:i<l.length:=by rw[h.1];exact hi
 obtain⟨ad,vs,e,hs,hr,hn,hv⟩:=h.2 i l[i] (by simp);exact⟨ad,l[i],vs,by simp,e,hs,hr,hn,hv⟩
def Z7.cell{U:Qa T}{a:Addr}{vs:List Value}(h:Z7 U a vs){i:Nat}{v:Value}(hv:vs[i]?=some v):U.sees (a.add i) v:=h i v hv
def Z4{U:Qa T}{M':List Qv}(h:M'.Sublist U.M):Qw U { U with M:=M' }:=by
 refine⟨rfl,λ w ok=>⟨⟨ok.imm,λ r hr=>ok.held r (h.subset hr),ok.apart.sublist h,λ r hr=>ok.sep r (h.subset hr)⟩,λ l hl=>?_,λ l hl=>?_⟩⟩
 .rw[Q6]at hl ⊢;obtain⟨r,hr,hl⟩:=hl;exact⟨r,h.subset hr,hl⟩
 .rw[Qy]at hl ⊢;exact hl.imp (λ⟨r,hr,hl⟩=>⟨r,h.subset hr,hl⟩) id
def Qze{U U':Qa T}{b:Nat}{o:Obj}{M₀:List Qv}(hs:Sep U')(hM:U'.M=.obj b o::M₀)(hI:∀x ox,U.I x=some ox->U'.I x=some ox)(h0:U.M=M₀)(ht:U'.tok=U.tok) :
  ∃U'',Qw U' U''/\U.le U''/\U''.I b=some o:=by
 refine⟨{ U' with I:=Qg0 U'.I b o,M:=M₀ },Wf (by rw[hM]),⟨λ x ox hx=>?_,h0.symm,ht⟩,by simp[Qg0]⟩;have hb:U'.I b=none:=hs (.obj b o) (by rw[hM];simp);show Qg0 U'.I b o x=_;unfold Qg0;rw[if_neg]
 .exact hI x ox hx
 .rintro rfl;rw[hI _ _ hx]at hb;cases hb
structure Qa.lg(U U':Qa T):Prop where
 imm:∀b o,U.I b=some o->U'.I b=some o
 own:∃A,U'.M=A++U.M
 tok:U'.tok=U.tok
def Qa.le.lg{U U':Qa T}(h:U.le U'):U.lg U':=⟨h.imm,⟨[],h.own⟩,h.tok⟩
def Qa.lg.trans{a b c:Qa T}(h:a.lg b)(k:b.lg c):a.lg c:=
 ⟨λ x o e=>k.imm x o (h.imm x o e),let ⟨A,e⟩:=h.own;let ⟨B,e'⟩:=k.own;⟨B++A,by rw[e',e,append_assoc]⟩,k.tok.trans h.tok⟩
def Z0{U:Qa T}(b:Nat)(o:Obj):U.lg (U.put b o):=⟨λ _ _ h=>h,⟨[.obj b o],rfl⟩,rfl⟩
def Qa.lg.shift{U U':Qa T}(h:U.lg U'):∃U'',Qw U' U''/\U.le U''/\U''.I=U'.I:=by
 obtain⟨A,e⟩:=h.own;exact⟨_,Z4 (M':=U.M) (by rw[e];exact sublist_append_right ..),⟨h.imm,rfl,h.tok⟩,rfl⟩
def Qb.go{f:FuncId}{args:Array Value}{U:Qa T}{c:Value}{K:Value->Qa T->Prop}(h:Qb S f args (λ v U'=>v=c/\U'=U) U)(k:K c U):Qb S f args K U:=h.mono λ v U'⟨a,b⟩=>by rw[a,b];exact k
def Qb.pure'{f:FuncId}{args:Array Value}{U:Qa T}{Q:Value->Prop}(h:Qb S f args (λ v U'=>Q v/\U.lg U') U):Qb S f args (λ v U'=>Q v/\U'=U) U:=
 h.post λ _ _⟨q,hl⟩=>let ⟨_,h1,h2,_⟩:=hl.shift;⟨U,h1.trans (Q6p h2),q,rfl⟩
def Qa.sees.lg{U U':Qa T}{a:Addr}{v:Value}(h:U.sees a v)(hl:U.lg U'):U'.sees a v:=by
 obtain⟨A,e⟩:=hl.own;obtain⟨hs,⟨c,t,fr,hb,hc⟩|⟨t,n,hm⟩⟩:=h
 .exact⟨hs,.inl ⟨c,t,fr,hb.imp (hl.imm _ _) (λ h=>by rw[e];exact mem_append_right _ h),hc⟩⟩
 .exact⟨hs,.inr ⟨t,n,by rw[e];exact mem_append_right _ hm⟩⟩
def Z7.lg{U U':Qa T}{a:Addr}{vs:List Value}(h:Z7 U a vs)(hl:U.lg U'):Z7 U' a vs:=λ i v hv=>(h i v hv).lg hl
def Zd.lg{U U':Qa T}{b:Nat}{c:Array Value}(h:Zd U b c)(hl:U.lg U'):Zd U' b c:=let ⟨t,fr,h⟩:=h;⟨t,fr,hl.imm _ _ h⟩
def Z3.lg{U U':Qa T}{a:Option Addr}{len:Nat}{l:List Int}(h:Z3 U a len l)(hl:U.lg U'):Z3 U' a len l:=
 ⟨h.1,λ i x hx=>let ⟨ad,e,hs,hv⟩:=h.2 i x hx;⟨ad,e,hs,hv.lg hl⟩⟩
def Qx.lg{U U':Qa T}{a:Option Addr}{len n:Nat}{α:Type}{l:List α}{R R':α->List Value->Prop}(h:Qx U a len n l R)(hl:U.lg U')(hR:∀x vs,R x vs->R' x vs):Qx U' a len n l R':=
 ⟨h.1,λ i x hx=>let ⟨ad,vs,e,hs,hr,hn,hv⟩:=h.2 i x hx;⟨ad,vs,e,hs,hR _ _ hr,hn,hv.lg hl⟩⟩
end Go.TM
namespace Go.TM
variable{T:Type}{P:Program}{S:Sys P T}{f:Fm}{K:Value->Qa T->Prop}{U:Qa T}
def rq{s:Sem Value}(h:Qr P s (λ v U'=>∃U1,Qw U' U1/\K v U1) U):Qr P (do pure (.value (<- s)):Sem Next) (Qak S λ v U'=>∃U1,Qw U' U1/\K v U1) U:=by
 rw[Qf];exact h
def ru{s:Sem Unit}(h:Qr P s (λ _ U'=>∃U1,Qw U' U1/\K undef U1) U):Qr P (do s;pure .skip:Sem Next) (Qak S λ v U'=>∃U1,Qw U' U1/\K v U1) U:=by
 rw[Qf];exact h
def Zoo{m:Nat}{t e:TypeId}{a:Option Addr}{n c l0 c0:Nat}(hu:P.underlying t=some (.slice e)){Q:Bool->Qa T->Prop}(h:Q a.isNone U):Qr P (Op.equalIn (m+1) t (.slice a n c) (.slice none l0 c0)) Q U:=by
 rw[Op.equalIn];simp only[Qf,Zg hu];cases a <;> exact h
def Qi7{t e t' ty:TypeId}{x:Operand}{a:Option Addr}{n c l0 c0:Nat}(hu:P.underlying t=some (.slice e))(hx:Zl f x=.slice a n c)(h:K (.bool a.isNone) U) :
  OX S (.raw { dst:=none,op:=.binOp .eql t x (.const (.slice none l0 c0)) t',type:=ty,pos := "", after:=#[],guard:=none }) f K U:=by
 intro a' ha;simp only[execOp,ha,hx];refine rq ?_;rw[Qf];show Qr P (binOp .eql t (.slice a n c) (.slice none l0 c0)) _ U;show Qr P (do pure (Value.bool (<- Op.equal t (.slice a n c) (.slice none l0 c0))):Sem Value) _ U;rw[Qf];exact Zoo (m:=9999) hu ⟨U,.refl _,h⟩
def Qai:TypeDesc->Bool
 |.int _|.bool|.string=>true
 |_=>false
def eqv:Value->Value->Bool
 |.int _ a,.int _ b=>a==b
 |.bool a,.bool b=>a==b
 |.string a,.string b=>a==b
 |_,_=>false
def Qq2:TypeDesc->Value->Bool
 |.int k,.int k' _=>decide (k=k')
 |.bool,.bool _=>true
 |.string,.string _=>true
 |_,_=>false
def Qzo{d:TypeDesc}{t:TypeId}{m:Nat}(hu:P.underlying t=some d)(hd:Qai d=true){x y:Value}(hx:Qq2 d x=true)(hy:Qq2 d y=true)(Q:Bool->Qa T->Prop)(U:Qa T) :
  Qr P (Op.equalIn (m+1) t x y) Q U=Q (eqv x y) U:=by
 rw[Op.equalIn];simp only[Qf,Zg hu];cases d <;> simp[Qai]at hd <;> cases x <;> simp[Qq2]at hx <;> cases y <;> simp[Qq2]at hy
 .rfl
 .subst hx;subst hy;simp only[if_true];rfl
 .rfl
def Qqc(P:Program):List Field->Nat->Bool
 |[],_=>true
 |fd::r,j=>fd.name != "_"&&decide (fd.offset=j)&&(match P.underlying fd.type with|some d=>Qai d|none=>false)&&Qqc P r (j+1)
def Qh6(P:Program):List Field->List Value->Bool
 |[],[]=>true
 |fd::r,v::vs=>(match P.underlying fd.type with|some d=>Qq2 d v|none=>false)&&Qh6 P r vs
 |_,_=>false
def Qdi:List Value->List Value->Bool
 |[],[]=>true
 |x::xs,y::ys=>eqv x y&&Qdi xs ys
 |_,_=>false
def Qi8{t:TypeId}{d:TypeDesc}{cs:Array Value}{j:Nat}{v:Value}(hu:P.underlying t=some d)(hd:Qai d=true)(hv:cs[j]?=some v)(Q:Value->Qa T->Prop)(U:Qa T) :
  Qr P (part t cs j) Q U=Q v U:=by
 have:TypeDesc.agg d=false:=by cases d <;> first|rfl|simp[Qai]at hd
 simp only[part,Qf,Qif hu,this,Bool.false_eq_true,if_false,hv];rfl
def Qb6{α β:Type}{x:α}{l:List α}{b:β}{g:α->β->Sem (ForInStep β)}{Q:β->Qa T->Prop} :
  Qr P (forIn (x::l) b g) Q U=Qr P (g x b) (λ r U=>match r with|.done b=>Q b U|.yield b=>Qr P (forIn l b g) Q U) U:=by
 rw[forIn_cons,Qf];congr 1;funext r U;cases r <;> rfl
def Q5q{m:Nat}{xs ys:Array Value}{Q:Option Bool×PUnit->Qa T->Prop}:∀(fs:List Field)(j:Nat)(vs ws:List Value),Qqc P fs j=true->Qh6 P fs vs=true->Qh6 P fs ws=true ->
  (∀i v,vs[i]?=some v->xs[j+i]?=some v)->(∀i v,ws[i]?=some v->ys[j+i]?=some v)->Q (if Qdi vs ws then none else some false,()) U ->
  Qr P (forIn fs ((none,()):Option Bool×PUnit) λ fd _=>
   if fd.name ≠ "_" then do
    let a <- part fd.type xs fd.offset
    let b <- part fd.type ys fd.offset
    let c <- Op.equalIn (m+1) fd.type a b
    if(!c)=true then pure (ForInStep.done (some false,()))else pure (ForInStep.yield (none,()))
   else pure (ForInStep.yield (none,()))) Q U
 |[],j,vs,ws,_,hv,hw,_,_,h=>by
  cases vs <;> cases ws <;> simp[Qh6]at hv hw;exact h
 |fd::r,j,vs,ws,hf,hv,hw,hx,hy,h=>by
  cases vs with
  |nil=>simp[Qh6]at hv
  |cons v vs=>
  cases ws with
  |nil=>simp[Qh6]at hw
  |cons w ws=>
  simp only[Qqc,Bool.and_eq_true,decide_eq_true_eq]at hf;obtain⟨⟨⟨h1,h2⟩,h3⟩,h4⟩:=hf;simp only[Qh6,Bool.and_eq_true]at hv hw;cases hd:P.underlying fd.type with
  |none=>rw[hd]at h3;cases h3
  |some d=>
   rw[hd]at h3 hv hw;rw[Qb6,if_pos (by simpa using h1)];simp only[Qf,h2];have hx0:xs[j]?=some v:=by simpa using hx 0 v rfl
   have hy0:ys[j]?=some w:=by simpa using hy 0 w rfl
   rw[Qi8 hd h3 hx0,Qi8 hd h3 hy0,Qzo hd h3 hv.1 hw.1];cases hb:eqv v w with
   |false=>simpa[hb,Qdi,Qi]using h
   |true=>
    simp only[Bool.not_true,Bool.false_eq_true,if_false,Qi];refine Q5q r (j+1) vs ws h4 hv.2 hw.2 (λ i v hi=>?_) (λ i v hi=>?_) (by simpa[hb,Qdi]using h)
    .have:=hx (i+1) v hi;rwa [show j+(i+1)=j+1+i by omega]at this
    .have:=hy (i+1) v hi;rwa [show j+(i+1)=j+1+i by omega]at this
def Qo3{t:TypeId}{fs:Array Field}(hu:P.underlying t=some (.struct fs))(hsi:P.stoodInHeld t=false)(hf:Qqc P fs.toList 0=true){vs ws:List Value}(hv:Qh6 P fs.toList vs=true)(hw:Qh6 P fs.toList ws=true)
  {Q:Bool->Qa T->Prop} (h:Q (Qdi vs ws) U):Qr P (Op.equal t (.agg vs.toArray) (.agg ws.toArray)) Q U:=by
 have e1:Op.equal t (.agg vs.toArray) (.agg ws.toArray)=Op.equalIn (9998+1+1) t (.agg vs.toArray) (.agg ws.toArray):=rfl;rw[e1,Op.equalIn];simp only[Qf,Zg hu,program,Qr,hsi,Bool.false_eq_true,if_false];obtain⟨fl⟩:=fs;rw[forIn_toArray];refine Q5q fl 0 vs ws hf hv hw (λ i v hi=>by simpa using hi) (λ i v hi=>by simpa using hi) ?_;cases hb:Qdi vs ws <;> simpa[hb,Qi]using h
def Qo4{op:BinOp}{t:TypeId}{x y:Operand}{vs ws:Array Value}(hg:P.eqGuardType P.depth t=false){Q:Unit->Qa T->Prop}(h:Q () U):Qr P (eqGuard op t x y (.agg vs) (.agg ws)) Q U:=by
 unfold eqGuard
 have key (u:Unsupported):Qr P (do
     if !(<- program).eqGuardType (<- program).depth t then return
     if <- Op.eqGuardIn Op.maxDepth t (.agg vs) (.agg ws)then unsupported u:Sem Unit) Q U:=by
  simp only[Qf,program,Qr,hg,Bool.not_false,if_true,Qi];exact h
 cases op <;> first|exact key _|exact h
structure Qfc(P:Program)(t:TypeId)(fs:Array Field):Prop where
 u:P.underlying t=some (.struct fs)
 s:P.stoodInHeld t=false
 f:Qqc P fs.toList 0=true
 g:P.eqGuardType P.depth t=false
def Zqu{t t' ty:TypeId}{fs:Array Field}(k:Qfc P t fs){x y:Operand}{vs ws:List Value}(hx:Zl f x=.agg vs.toArray)(hy:Zl f y=.agg ws.toArray)(hv:Qh6 P fs.toList vs=true)(hw:Qh6 P fs.toList ws=true)(h:K (.bool (Qdi vs ws)) U) :
  OX S (.raw { dst:=none,op:=.binOp .eql t x y t',type:=ty,pos := "", after:=#[],guard:=none }) f K U:=by
 intro a' ha;simp only[execOp,ha,hx,hy];refine rq ?_;rw[Qf];refine Qo4 k.g ?_;simp only[binOp,Qf];exact Qo3 k.u k.s k.f hv hw ⟨U,.refl _,h⟩
def Zqv{t t' ty:TypeId}{fs:Array Field}(k:Qfc P t fs){x y:Operand}{vs ws:List Value}(hx:Zl f x=.agg vs.toArray)(hy:Zl f y=.agg ws.toArray)(hv:Qh6 P fs.toList vs=true)(hw:Qh6 P fs.toList ws=true)(h:K (.bool (!Qdi vs ws)) U) :
  OX S (.raw { dst:=none,op:=.binOp .neq t x y t',type:=ty,pos := "", after:=#[],guard:=none }) f K U:=by
 intro a' ha;simp only[execOp,ha,hx,hy];refine rq ?_;rw[Qf];refine Qo4 k.g ?_;simp only[binOp,Qf];exact Qo3 k.u k.s k.f hv hw ⟨U,.refl _,h⟩
def Qrh{ats:Array TypeId}{ty:TypeId}{x y:Operand}{k:IntKind}{a b:Int}(hx:Zl f x=.int k a)(hy:Zl f y=.int k b)(h:K (.int k (min a b)) U) :
  OX S (.raw { dst:=none,op:=.call { callee:=.builtin .min,args:=#[x,y],argTypes:=ats },type:=ty,pos := "", after:=#[],guard:=none }) f K U:=by
 intro a' ha;have hm:(#[x,y]:Array Operand).map a'.eval=#[.int k a,.int k b]:=by simp[ha,hx,hy]
 simp only[execOp,resolve,hm,Qf,Qi,invoke,builtin,Builtin.min_,List.foldlM,Builtin.min2];refine⟨U,.refl _,?_⟩;have:(if b<a then b else a)=min a b:=by rw[Int.min_def];split <;> split <;> omega
 rw[this];exact h
def Qs{κ:Type}(enc:κ->Value):List (κ×Value)->Nat->List MapEntry
 |[],_=>[]
 |p::l,i=>⟨enc p.1,p.2,i⟩::Qs enc l (i+1)
def Qt{κ:Type}(enc:κ->Value)(l:List (κ×Value)):Obj:=.map (Qs enc l 0).toArray l.length
def lkI{κ:Type}[DecidableEq κ](k:κ):List (κ×Value)->Nat->Option (Nat×Value)
 |[],_=>none
 |p::l,i=>if k=p.1 then some (i,p.2)else lkI k l (i+1)
def lk{κ:Type}[DecidableEq κ](k:κ)(l:List (κ×Value)):Option Value:=(lkI k l 0).map (·.2)
def ups{κ:Type}[DecidableEq κ](k:κ)(v:Value):List (κ×Value)->List (κ×Value)
 |[]=>[(k,v)]
 |p::l=>if k=p.1 then(p.1,v)::l else p::ups k v l
structure Qjx(T:Type)(P:Program)(kt:TypeId){κ:Type}[DecidableEq κ](enc:κ->Value):Prop where
 chk:∀(e:Bool)(k:κ){Q:Unit->Qa T->Prop}{U:Qa T},Q () U->Qr P (Instr.checkKey e 10000 kt (enc k)) Q U
 find:∀(k:κ)(l:List (κ×Value)){Q:Option (Nat×Value)->Qa T->Prop}{U:Qa T},Q (lkI k l 0) U->Qr P (Instr.findKey kt (enc k) (Qs enc l 0)) Q U
 bits:∀k,Instr.sameBits 10000 (enc k) (enc k)=true
def Qvl{κ:Type}[DecidableEq κ]{enc:κ->Value}{d:TypeDesc}(h:∀k k',Instr.sameNow d (enc k) (enc k')=some (decide (k=k')))(k:κ):∀(l:List (κ×Value))(i j:Nat),Instr.findNow d (enc k) (Qs enc l j) i=some (lkI k l i)
 |[],i,j=>rfl
 |p::l,i,j=>by
  simp only[Qs,Instr.findNow,h,lkI];by_cases e:k=p.1
  .simp[e]
  .simp only[e,decide_false,if_false];exact Qvl h k l (i+1) (j+1)
def Qmb{κ:Type}{enc:κ->Value}{d:TypeDesc}(h:∀k k',Instr.sameNow d (enc k) (enc k')=none)(k:κ)(p:κ×Value)(l:List (κ×Value))(i j:Nat):Instr.findNow d (enc k) (Qs enc (p::l) j) i=none:=by
 simp only[Qs,Instr.findNow,h]
def Qkb{κ:Type}[DecidableEq κ]{enc:κ->Value}{kt:TypeId}(h:∀k k'{Q:Bool->Qa T->Prop}{U:Qa T},Q (decide (k=k')) U->Qr P (Op.equal kt (enc k) (enc k')) Q U)(k:κ) :
  ∀(l:List (κ×Value))(i j:Nat){Q:Option (Nat×Value)->Qa T->Prop}{U:Qa T},Q (lkI k l i) U->Qr P (Instr.findAsking kt (enc k) (Qs enc l j) i) Q U
 |[],i,j,Q,U,hq=>hq
 |p::l,i,j,Q,U,hq=>by
  simp only[Qs,Instr.findAsking,Qf];refine h k p.1 ?_;by_cases e:k=p.1
  .simpa[e,lkI,Qi]using hq
  .simp only[e,decide_false,Bool.false_eq_true,if_false];exact Qkb h k l (i+1) (j+1) (by simpa[lkI,e]using hq)
def Qjx.simple{kt:TypeId}{d:TypeDesc}{κ:Type}[DecidableEq κ]{enc:κ->Value}(hu:P.underlying kt=some d)(hd:Qai d=true)(hn:∀k k',Instr.sameNow d (enc k) (enc k')=some (decide (k=k')))(hb:∀k,Instr.sameBits 10000 (enc k) (enc k)=true):Qjx T P kt enc:=by
 refine⟨λ e k Q U h=>?_,λ k l Q U h=>?_,hb⟩
 .have:∀m,Qr P (Instr.checkKey e (m+1) kt (enc k)) Q U:=λ m=>by
   rw[Instr.checkKey];simp only[Qf,Zg hu];cases d <;> simp[Qai]at hd <;> exact h
  exact this 9999
 .unfold Instr.findKey;simp only[Qf,Zg hu,Qvl hn k l 0 0];exact h
def Qy4{m:Nat}{e:Bool}{xs:Array Value}{Q:PUnit->Qa T->Prop}:∀(fs:List Field)(j:Nat)(vs:List Value),Qqc P fs j=true->Qh6 P fs vs=true->(∀i v,vs[i]?=some v->xs[j+i]?=some v)->Q () U ->
  Qr P (forIn fs PUnit.unit λ fd _=>
   if fd.name ≠ "_" then do
    let a <- part fd.type xs fd.offset
    Instr.checkKey e (m+1) fd.type a
    pure (ForInStep.yield PUnit.unit)
   else pure (ForInStep.yield PUnit.unit)) Q U
 |[],_,_,_,_,_,h=>h
 |fd::r,j,vs,hf,hv,hx,h=>by
  cases vs with
  |nil=>simp[Qh6]at hv
  |cons v vs=>
  simp only[Qqc,Bool.and_eq_true,decide_eq_true_eq]at hf;obtain⟨⟨⟨h1,h2⟩,h3⟩,h4⟩:=hf;simp only[Qh6,Bool.and_eq_true]at hv;cases hd:P.underlying fd.type with
  |none=>rw[hd]at h3;cases h3
  |some d=>
   rw[hd]at h3 hv;rw[Qb6,if_pos (by simpa using h1)];have hx0:xs[j]?=some v:=by simpa using hx 0 v rfl
   simp only[Qf,h2];rw[Qi8 hd h3 hx0]
   have hchk:∀Q:Unit->Qa T->Prop,Qr P (Instr.checkKey e (m+1) fd.type v) Q U=Q () U:=λ Q=>by
    rw[Instr.checkKey];simp only[Qf,Zg hd];cases d <;> simp[Qai]at h3 <;> rfl
   rw[hchk];simp only[Qi];refine Qy4 r (j+1) vs h4 hv.2 (λ i v hi=>?_) h;have:=hx (i+1) v hi;rwa [show j+(i+1)=j+1+i by omega]at this
def Qjx.struct{kt:TypeId}{fs:Array Field}{κ:Type}[DecidableEq κ]{enc:κ->List Value}(hk:Qfc P kt fs)(hfit:∀k,Qh6 P fs.toList (enc k)=true)(he:∀k k',Qdi (enc k) (enc k')=decide (k=k'))(hb:∀k,Instr.sameBits 10000 (.agg (enc k).toArray) (.agg (enc k).toArray)=true) :
  Qjx T P kt (λ k=>.agg (enc k).toArray):=by
 refine⟨λ e k Q U h=>?_,λ k l Q U h=>?_,hb⟩
 .have:∀m,Qr P (Instr.checkKey e (m+1+1) kt (.agg (enc k).toArray)) Q U:=λ m=>by
   rw[Instr.checkKey];simp only[Qf,Zg hk.u];obtain⟨fl⟩:=fs;rw[forIn_toArray];exact Qy4 fl 0 (enc k) hk.f (hfit k) (λ i v hi=>by simpa using hi) h
  exact this 9998
 .unfold Instr.findKey;simp only[Qf,Zg hk.u];cases l with
  |nil=>exact h
  |cons p l=>
   rw[Qmb (enc:=λ k=>Value.agg (enc k).toArray) (λ _ _=>rfl)];exact Qkb (λ k k' Q U hq=>Qo3 hk.u hk.s hk.f (hfit k) (hfit k') (by rw[he];exact hq)) k (p::l) 0 0 h
def Qck{κ:Type}(enc:κ->Value){t ty:TypeId}(h:∀b,U.free b->K (.map (some b)) (U.put b (Qt enc []))) :
  OX S (.raw { dst:=none,op:=.makeMap t none,type:=ty,pos := "", after:=#[],guard:=none }) f K U:=by
 intro a' ha;simp only[execOp];refine rq ?_;simp only[Instr.makeMap,Qf,newObj,Qr,Qi,Option.map_none];exact λ b hb=>⟨_,.refl _,h b hb⟩
def Qzq{κ:Type}[DecidableEq κ]{enc:κ->Value}{t kt vt:TypeId}{z:Value}{b:Nat}{l:List (κ×Value)}{k:κ}{ok:Bool}(hk:Qjx T P kt enc)(hu:P.underlying t=some (.map kt vt))(hz:Qdy P vt=some z)
  (hm:U.has b (Qt enc l)) {Q:Value->Qa T->Prop} (h:Q (if ok then .tuple #[(lk k l).getD z,.bool (lk k l).isSome]else(lk k l).getD z) U):Qr P (Instr.lookup t (.map (some b)) (enc k) ok) Q U:=by
 obtain⟨inf,hi,hzz⟩:=Qcn hz;unfold Instr.lookup;simp only[Qf,Zg hu,getObj];refine⟨_,hm,rfl,rfl,?_⟩;simp only[Qr,Qt,Qi,Qf];refine hk.chk _ _ ?_;refine hk.find k l ?_;unfold lk at h;cases e:lkI k l 0 with
 |none=>simp only[e,Option.map_none,Option.getD_none,Option.isSome_none]at h;simp only[Qf,Qb7 hi hzz,Qi];exact h
 |some p=>simp only[e,Option.map_some,Option.getD_some,Option.isSome_some]at h;simp only[Qi];exact h
def Qke{κ:Type}[DecidableEq κ]{enc:κ->Value}{t kt vt ty:TypeId}{z:Value}{b:Nat}{l:List (κ×Value)}{k:κ}{x y:Operand}(hk:Qjx T P kt enc)(hu:P.underlying t=some (.map kt vt))(hz:Qdy P vt=some z)
  (hx:Zl f x=.map (some b)) (hy:Zl f y=enc k) (hm:U.has b (Qt enc l)) (h:K ((lk k l).getD z) U) :
  OX S (.raw { dst:=none,op:=.lookup t x y false,type:=ty,pos := "", after:=#[],guard:=none }) f K U:=by
 intro a' ha;simp only[execOp,ha,hx,hy];exact rq (Qzq hk hu hz hm ⟨U,.refl _,h⟩)
theorem Qid{κ:Type}[DecidableEq κ]{enc:κ->Value}{t kt vt ty:TypeId}{z:Value}{b:Nat}{l:List (κ×Value)}{k:κ}{x y:Operand}(hk:Qjx T P kt enc)(hu:P.underlying t=some (.map kt vt))(hz:Qdy P vt=some z)
  (hx:Zl f x=.map (some b)) (hy:Zl f y=enc k) (hm:U.has b (Qt enc l)) (h:K (.tuple #[(lk k l).getD z,.bool (lk k l).isSome]) U) :
  OX S (.raw { dst:=none,op:=.lookup t x y true,type:=ty,pos := "", after:=#[],guard:=none }) f K U:=by
 intro a' ha;simp only[execOp,ha,hx,hy];exact rq (Qzq hk hu hz hm ⟨U,.refl _,h⟩)
def Ql9{κ:Type}(enc:κ->Value):∀(l:List (κ×Value))(i:Nat),(Qs enc l i).length=l.length
 |[],_=>rfl
 |_::l,i=>by simp[Qs,Ql9 enc l]
def Qcr{κ:Type}(enc:κ->Value):∀(l l':List (κ×Value))(i:Nat),Qs enc (l++l') i=Qs enc l i++Qs enc l' (i+l.length)
 |[],l',i=>by simp[Qs]
 |p::l,l',i=>by simp[Qs,Qcr enc l l' (i+1)];congr 1;omega
def Qvv{κ:Type}[DecidableEq κ]{k:κ}{v:Value}:∀{l:List (κ×Value)}{i:Nat},lkI k l i=none->ups k v l=l++[(k,v)]
 |[],_,_=>rfl
 |p::l,i,h=>by
  simp only[lkI]at h;split at h
  .cases h
  .rename_i e;simp only[ups,if_neg e,cons_append,Qvv h]
def Zfk{κ:Type}[DecidableEq κ]{enc:κ->Value}{k:κ}{v:Value}:∀{l:List (κ×Value)}{i j n:Nat}{x:Value},lkI k l i=some (n,x)->i<=n/\(∃e,(Qs enc l j)[n-i]?=some e/\e.key=enc k) /\
   (Qs enc l j).modify (n-i) (λ e=>{ e with key:=enc k,val:=v })=Qs enc (ups k v l) j/\(ups k v l).length=l.length
 |[],_,_,_,_,h=>by cases h
 |p::l,i,j,n,x,h=>by
  simp only[lkI]at h;split at h
  .rename_i e;cases h;refine⟨Nat.le_refl _,?_,?_,?_⟩
   .simp[Qs,e]
   .simp[Qs,ups,e]
   .simp[ups,e]
  .rename_i e;obtain⟨h1,⟨x,h2,h2'⟩,h3,h4⟩:=Zfk (enc:=enc) (v:=v) (j:=j+1) h;have hs:n-i=(n-(i+1))+1:=by omega
   refine⟨by omega,?_,?_,by simp[ups,e,h4]⟩
   .rw[hs];exact⟨x,by simpa[Qs]using h2,h2'⟩
   .rw[hs];simp only[Qs,ups,if_neg e,modify_succ_cons,h3]
def Qe7{κ:Type}[DecidableEq κ]{enc:κ->Value}{t kt vt ty:TypeId}{b:Nat}{l:List (κ×Value)}{k:κ}{v:Value}{x y u:Operand}{M':List Qv}(hk:Qjx T P kt enc)(hu:P.underlying t=some (.map kt vt))
  (hx:Zl f x=.map (some b)) (hy:Zl f y=enc k) (hv:Zl f u=v) (hm:J4 b (Qt enc (ups k v l)) (Qt enc l) U.M M') (h:K undef { U with M:=M' }) :
  OX S (.raw { dst:=none,op:=.mapUpdate t x y u,type:=ty,pos := "", after:=#[],guard:=none }) f K U:=by
 intro a' ha;simp only[execOp,ha,hx,hy,hv];refine ru ?_;unfold Instr.mapUpdate;simp only[Qf,Zg hu,getObj];refine⟨_,.inr hm.mem,rfl,rfl,?_⟩;simp only[Qr,Qt,Qi,Qf];refine hk.chk _ _ ?_;refine hk.find k l ?_;cases e:lkI k l 0 with
 |none=>
  have hup:=Qvv (v:=v) e;simp only[setObj,Qr];refine⟨Qt enc l,M',?_,rfl,rfl,rfl,⟨_,.refl _,h⟩⟩
  have:Obj.map ((Qs enc l 0).toArray.push { key:=enc k,val:=v,born:=l.length }) (l.length+1)=Qt enc (ups k v l):=by
   rw[hup];simp only[Qt,length_append,length_cons,length_nil,Qcr,Qs,Nat.zero_add];congr 1;apply Array.ext';simp
  rw[this];exact hm
 |some p=>
  obtain⟨n,w⟩:=p;obtain⟨h1,⟨en,h2,h2'⟩,h3,h4⟩:=Zfk (enc:=enc) (v:=v) (j:=0) e
  have hg:(((Qs enc l 0).toArray[n]?).map (·.key)).getD (enc k)=enc k:=by
   have:(Qs enc l 0).toArray[n]?=some en:=by simpa using h2
   rw[this];exact h2'
  simp only[Qf,Instr.keyThatStays,hg,hk.bits,if_true,Qi,setObj,Qr];refine⟨Qt enc l,M',?_,rfl,rfl,rfl,⟨_,.refl _,h⟩⟩
  have:Obj.map ((Qs enc l 0).toArray.modify n λ e=>{ e with key:=enc k,val:=v }) l.length=Qt enc (ups k v l):=by
   simp only[Qt,h4];congr 1;apply Array.ext';have h3':=h3;rw[Nat.sub_zero]at h3';simpa using h3'
  rw[this];exact hm
def Qf7{b off:Nat}{e:TypeId}{M₀:List Qv}{Q:Qa T->Prop}:∀(vs:List Value)(i:Nat)(c:Array Value)(U:Qa T),U.M=.obj b (.cells c e (0,0))::M₀->(∀v∈vs,v.single=true)->off+i+vs.length<=c.size ->
  Q { U with M:=.obj b (.cells (Qcv c off vs i) e (0,0))::M₀ }->StV ⟨b,off,none⟩ vs i Q U
 |[],i,c,U,hM,_,_,hq=>by
  have:U={ U with M:=.obj b (.cells c e (0,0))::M₀ }:=by rw[<- hM]
  show Q U;rw[this];exact hq
 |v::vs,i,c,U,hM,hs,hb,hq=>by
  simp only[length_cons]at hb;refine⟨hs v (mem_cons_self ..),.obj b (.cells (c.setIfInBounds (off+i) v) e (0,0))::M₀,?_,?_⟩
  .rw[hM,Qo];exact .obj (a:=⟨b,off+i,none⟩) rfl (by show off+i<c.size;omega)
  .exact Qf7 vs (i+1) _ _ rfl (λ v hv=>hs v (mem_cons_of_mem _ hv)) (by simp;omega) hq
def Qi2{vs:List Value}{c:Array Value}(h:c.size=vs.length):Qcv c 0 vs 0=vs.toArray:=by
 apply Array.ext
 .rw[Qgi];simpa using h
 .intro i h1 h2;have hi:i<vs.length:=by simpa using h2
  have:=Qfz vs c 0 0 i (by omega);rw[if_pos (by omega)]at this;simp only[Nat.zero_add,Nat.sub_zero]at this;rw[Array.getElem?_eq_getElem h1,getElem?_eq_getElem hi]at this;simpa using Option.some.inj this
def Zs{b:Nat}{c:Array Value}{t:TypeId}{vs:List Value}{Q:Qa T->Prop}(hf:U.free b)(hsz:c.size=vs.length)(hs:∀v∈vs,v.single=true)(h:∀U1,U.le U1->Zd U1 b vs.toArray->Q U1) :
  StV ⟨b,0,none⟩ vs 0 (λ U'=>∃U1,Qw U' U1/\Q U1) (U.put b (.cells c t)):=by
 refine Qf7 vs 0 c _ rfl hs (by omega) ?_;rw[Qi2 hsz];exact⟨_,Wf (b:=b) (M':=U.M) (Perm.refl _),h _ (Qor hf) Zd.new⟩
def Acc(e:TypeId)(n:Nat)(v:Value)(cs:List Value)(M M₀:List Qv):Prop:=
 (v=.slice none 0 0/\cs=[]/\M=M₀) \/
 (∃(b:Nat)(c:Array Value)(len cap:Nat),v=.slice (some ⟨b,0,none⟩) len cap/\cs.length=len*n/\len<=cap/\c.size=cap*n/\M=.obj b (.cells c e (0,0))::M₀/\∀(i:Nat)(x:Value),cs[i]?=some x->c[i]?=some x)
def Q05:Value->Bool
 |.slice none _ _=>true
 |_=>false
def Acc.nil{e:TypeId}{n:Nat}{M₀:List Qv}:Acc e n (.slice none 0 0) [] M₀ M₀:=.inl ⟨rfl,rfl,rfl⟩
def Acc.empty{e:TypeId}{n b:Nat}{M₀:List Qv}:Acc e n (.slice (some ⟨b,0,none⟩) 0 0) [] (.obj b (.cells #[] e (0,0))::M₀) M₀:=
 .inr ⟨b,#[],0,0,rfl,by simp,Nat.le_refl _,by simp,rfl,λ i x h=>by simp at h⟩
def Qzd(newLen:Nat):∀(r c:Nat),Builtin.growBy newLen r c<=max c (newLen+(newLen+768) / 4)
 |0,c=>by simp[Builtin.growBy];omega
 |r+1,c=>by
  simp only[Builtin.growBy];split
  .omega
  .have:=Qzd newLen r (c+(c+768) / 4);omega
def nextslicecap_le{need old:Nat}(h:old<need):Builtin.nextslicecap need old<=2*need+192:=by
 unfold Builtin.nextslicecap;split
 .omega
 .split
  .omega
  .have:=Qzd need 4 old;omega
def Src(U:Qa T)(a:Option Addr)(cs:List Value):Prop:=(a=none/\cs=[])\/∃ad,a=some ad/\Z7 U ad cs
def Qbl{U:Qa T}{a:Option Addr}{l c n:Nat}{cs:List Value}(h:Src U a cs)(hl:cs.length=l*n){Q:Array Value->Qa T->Prop}(hq:Q cs.toArray U):Qr P (Builtin.firstCells n l (.slice a l c)) Q U:=by
 rcases h with⟨rfl,rfl⟩|⟨ad,rfl,hr⟩
 .exact hq
 .simp only[Builtin.firstCells];rw[<- hl];exact hr.cells hq
def Qmq{k:Nat}{Q:Unit->Qa T->Prop}(h:Q () U):Qr P (askRoom k) Q U:=by
 unfold askRoom;split
 .exact⟨rfl,h⟩
 .exact h
def Zed{b:Nat}{c:Array Value}{e:TypeId}{M₀:List Qv}{cs:List Value}(hM:U.M=.obj b (.cells c e (0,0))::M₀)(h:∀(i:Nat)(x:Value),cs[i]?=some x->c[i]?=some x):Z7 U ⟨b,0,none⟩ cs:=by
 intro i v hi;rw[Qo];exact⟨rfl,.inl ⟨c,e,(0,0),.inr (by rw[hM];simp),by simpa using h i v hi⟩⟩
def Acc.src{e n:Nat}{v:Value}{cs:List Value}{M₀:List Qv}(h:Acc e n v cs U.M M₀):∃a l c,v=.slice a l c/\cs.length=l*n/\Src U a cs:=by
 rcases h with⟨rfl,rfl,hM⟩|⟨b,c,len,cap,rfl,h1,h2,h3,hM,h4⟩
 .exact⟨_,_,_,rfl,by simp,.inl ⟨rfl,rfl⟩⟩
 .exact⟨_,_,_,rfl,h1,.inr ⟨_,rfl,Zed hM h4⟩⟩
def Zeb{t t2 e e2 n ty:Nat}{z v:Value}{inf:TypeInfo}{x y:Operand}{ya:Option Addr}{yl yc:Nat}{cs new:List Value}{M₀:List Qv}
  (hu:P.underlying t=some (.slice e)) (hu2:P.underlying t2=some (.slice e2)) (hi:P.info? e=some inf) (hsz:inf.size=n) (hz:inf.zero=some z) (hzs:z.cells.size=n) (hby:inf.bytes≠0/\inf.bytes<=1024)
  (hx:Zl f x=v) (hy:Zl f y=.slice ya yl yc) (ha:Acc e n v cs U.M M₀) (hsrc:Src U ya new) (hl:new.length=yl*n) (hn:0<n) (hsing:∀w∈new,w.single=true) (hlen:cs.length+new.length<=1048576)
  (h:∀v' M',Acc e n v' (cs++new) M' M₀->Q05 v'=(Q05 v&&new.isEmpty)->K v' { U with M:=M' }) :
  OX S (.raw { dst:=none,op:=.call { callee:=.builtin .append,args:=#[x,y],argTypes:=#[t,t2] },type:=ty,pos := "", after:=#[],guard:=none }) f K U:=by
 intro a' hev;obtain⟨sa,sl,sc,hve,hcl,hss⟩:=ha.src;have hm:(#[x,y]:Array Operand).map a'.eval=#[.slice sa sl sc,.slice ya yl yc]:=by simp[hev,hx,hy,hve]
 simp only[execOp,resolve,hm,Qf,Qi,invoke,builtin];show Qr P (Builtin.append_ #[t,t2] ty #[.slice sa sl sc,.slice ya yl yc]) _ U;unfold Builtin.append_;simp only[getElem?_toArray,getElem?_cons_zero,getElem?_cons_succ,Qf,Zg hu,Zg hu2,Jh hi,hsz,Qi,Bool.false_eq_true,if_false,Builtin.lenOf,Wi hi,false_or,Bool.not_false,if_true];have hsl:sl<=cs.length:=by rw[hcl];exact Nat.le_mul_of_pos_right _ hn
 have hyl:yl<=new.length:=by rw[hl];exact Nat.le_mul_of_pos_right _ hn
 have hcat:(cs++new).length=(sl+yl)*n:=by rw[length_append,hcl,hl,Nat.add_mul]
 split
 .rename_i hle;rw[Qf];refine Qbl hsrc hl ?_;rcases ha with⟨rfl,rfl,hM⟩|⟨b,c,len,cap,rfl,h1,h2,h3,hM,h4⟩
  .cases hve;have:yl=0:=by omega
   subst this;have hnew:new=[]:=by simpa using hl
   subst hnew;refine⟨U,.refl _,?_⟩;have:=h (.slice none 0 0) U.M (.inl ⟨rfl,rfl,hM⟩) rfl;exact this
  .cases hve;simp only[Qf];refine Qat _ _ _ ?_;rw[Qo]
   have hroom:0+sl*n+0+new.length<=c.size:=by
    have:(sl+yl)*n<=sc*n:=Nat.mul_le_mul_right n hle;rw[Nat.add_mul]at this;rw[h3,hl];omega
   refine Qf7 _ _ c U hM hsing hroom ?_;refine⟨_,.refl _,h _ _ (.inr ⟨b,_,sl+yl,sc,rfl,hcat,hle,by rw[Qgi];exact h3,rfl,λ i x hi=>?_⟩) rfl⟩;rw[Qfz _ _ _ _ _ hroom];simp only[getElem?_append]at hi;split at hi
   .rename_i hlt;rw[if_neg (by omega)];exact h4 i x hi
   .rename_i hge;have hlt:=(List.getElem?_eq_some_iff.1 hi).1;rw[if_pos (by omega)];rw[show i-(0+sl*n+0)=i-cs.length by omega];exact hi
 .rename_i hgt;have hb1:¬(((sl+yl:Nat):Int) > IntKind.i64.max/\inf.bytes=0):=λ h=>hby.1 h.2
  have hb2:¬(Builtin.nextslicecap (sl+yl) sc*inf.bytes > 2^48):=by
   have:=nextslicecap_le (need:=sl+yl) (old:=sc) (by omega);have h2:Builtin.nextslicecap (sl+yl) sc*inf.bytes<=(2*(sl+yl)+192)*1024:=Nat.mul_le_mul this hby.2;have e48:(2:Nat)^48=281474976710656:=by decide
   rw[e48];omega
  simp only[Wi hi,Qf];rw[if_neg hb1];simp only[Wi hi,Qf];rw[if_neg hb2];simp only[choose,Qf];show ∀tt,Qr P _ _ U;intro tt;show Qr P (typeInfo e) _ U;rw[Wi hi];refine Qmq ?_;refine Qbl hss hcl ?_;refine Qbl hsrc hl ?_;simp only[Qb7 hi hz];refine Jk λ b' hb'=>?_;have hcut:sl+yl<=Question.cut (.appendCap (sl+yl) sc e) tt:=by simp only[Question.cut];omega
  refine⟨_,Z4 (M':=.obj b' (.cells (cs.toArray++new.toArray++Builtin.zeroCells z.cells (Question.cut (.appendCap (sl+yl) sc e) tt-(sl+yl))) e)::M₀) ?_,?_⟩
  .show Sublist _ (.obj b' _::U.M);refine Sublist.cons_cons _ ?_;rcases ha with⟨rfl,rfl,hM⟩|⟨b,c,len,cap,rfl,h1,h2,h3,hM,h4⟩
   .rw[hM];exact Sublist.refl _
   .rw[hM];exact sublist_cons_self _ _
  .refine h _ _ (.inr ⟨b',_,sl+yl,Question.cut (.appendCap (sl+yl) sc e) tt,rfl,hcat,hcut,?_,rfl,λ i x hi=>?_⟩) ?_
   .simp only[Array.size_append,size_toArray,hcl,hl,Builtin.zeroCells,Array.size_map,Array.size_range,hzs];rw[<- Nat.add_mul,<- Nat.add_mul];congr 1;omega
   .have:(cs.toArray++new.toArray)=(cs++new).toArray:=by simp
    rw[this,Array.getElem?_append_left (by simpa using(List.getElem?_eq_some_iff.1 hi).1)];simpa using hi
   .rcases ha with⟨rfl,rfl,hM⟩|⟨b,c,len,cap,rfl,h1,h2,h3,hM,h4⟩
    .cases hve;have:new≠[]:=by rintro rfl;simp at hl;omega
     cases new with
     |nil=>exact absurd rfl this
     |cons=>rfl
    .rfl
def Zt1(P:Program)(t e n:Nat):Bool:=
 (match P.underlying t with|some (.slice e')=>decide (e'=e)|_=>false)&&(match P.info? e with
  |some inf=>decide (inf.size=n)&&(match inf.zero with|some z=>decide (z.cells.size=n)|none=>false)&&decide (inf.bytes≠0)&&decide (inf.bytes<=1024)
  |none=>false)&&decide (0<n)
structure SlT(P:Program)(t e n:Nat):Prop where
 u:P.underlying t=some (.slice e)
 i:∃inf z,P.info? e=some inf/\inf.size=n/\inf.zero=some z/\z.cells.size=n/\inf.bytes≠0/\inf.bytes<=1024
 n:0<n
def SlT.of{t e n:Nat}(h:Zt1 P t e n=true):SlT P t e n:=by
 unfold Zt1 at h;simp only[Bool.and_eq_true,decide_eq_true_eq]at h;obtain⟨⟨h1,h2⟩,h3⟩:=h;refine⟨?_,?_,h3⟩
 .split at h1
  .rename_i e' hu;simp only[decide_eq_true_eq]at h1;subst h1;exact hu
  .cases h1
 .split at h2
  .rename_i inf hi;simp only[Bool.and_eq_true,decide_eq_true_eq]at h2;obtain⟨⟨⟨a,b⟩,c⟩,d⟩:=h2;split at b
   .rename_i z hz;simp only[decide_eq_true_eq]at b;exact⟨inf,z,hi,a,hz,b,c,d⟩
   .cases b
  .cases h2
def Ws{t e n ty:Nat}{v:Value}{x y:Operand}{ya:Option Addr}{yl yc:Nat}{cs new:List Value}{M₀:List Qv}(k:SlT P t e n)
  (hx:Zl f x=v) (hy:Zl f y=.slice ya yl yc) (ha:Acc e n v cs U.M M₀) (hsrc:Src U ya new) (hl:new.length=yl*n) (hsing:∀w∈new,w.single=true) (hlen:cs.length+new.length<=1048576)
  (h:∀v' M',Acc e n v' (cs++new) M' M₀->Q05 v'=(Q05 v&&new.isEmpty)->K v' { U with M:=M' }) :
  OX S (.raw { dst:=none,op:=.call { callee:=.builtin .append,args:=#[x,y],argTypes:=#[t,t] },type:=ty,pos := "", after:=#[],guard:=none }) f K U:=by
 obtain⟨inf,z,h1,h2,h3,h4,h5,h6⟩:=k.i;exact Zeb k.u k.u h1 h2 h3 h4 ⟨h5,h6⟩ hx hy ha hsrc hl k.n hsing hlen h
def Zp8(P:Program)(t:TypeId):Array Field:=match P.underlying t with|some (.struct fs)=>fs|_=>#[]
def Zfr(P:Program)(t:TypeId):Bool:=
 (match P.underlying t with|some (.struct _)=>true|_=>false)&&!P.stoodInHeld t&&Qqc P (Zp8 P t).toList 0&&!P.eqGuardType P.depth t
def Qfc.of{t:TypeId}(h:Zfr P t=true):Qfc P t (Zp8 P t):=by
 unfold Zfr at h;simp only[Bool.and_eq_true,Bool.not_eq_true']at h;obtain⟨⟨⟨h1,h2⟩,h3⟩,h4⟩:=h;refine⟨?_,h2,h3,h4⟩;unfold Zp8;split at h1
 .rename_i fs hu;rw[hu]
 .cases h1
def Qmj{t e ty n:Nat}{z:Value}{inf:TypeInfo}{x y:Operand}(hu:P.underlying t=some (.slice e))(hi:P.info? e=some inf)(hz:inf.zero=some z)(hzc:z.cells=#[z])(hsz:inf.size=1)(hby:inf.bytes<=64)
  (hx:Zl f x=.int .i64 n) (hy:Zl f y=.int .i64 n) (hn:n<=1048576) (h:∀b,U.free b->K (.slice (some ⟨b,0,none⟩) n n) (U.put b (.cells (replicate n z).toArray e))) :
  OX S (.raw { dst:=none,op:=.makeSlice t x y,type:=ty,pos := "", after:=#[],guard:=none }) f K U:=by
 intro a' ha;simp only[execOp,ha,hx,hy];refine rq ?_;unfold Instr.makeSlice;have hw:IntKind.wrap .i64 (n:Int)=n:=Qdx (by unfold Zm;omega);simp only[Qf,Zg hu,asInt,asIntOf,Qi,Wi hi,hw]
 have hle:(inf.bytes:Int)*(n:Int)<=67108864:=by
  have:=Nat.mul_le_mul hby hn;have e:((inf.bytes*n:Nat):Int)=(inf.bytes:Int)*n:=by simp
  omega
 have e48:(2:Int)^48=281474976710656:=by decide
 have hno:(((decide ((n:Int)<0)|| decide ((inf.bytes:Int)*(n:Int) > 2^48))|| decide ((n:Int)<0))|| decide ((n:Int) > n))=false:=by
  rw[e48];simp only[Bool.or_eq_false_iff,decide_eq_false_iff_not];omega
 simp only[hno,Bool.false_eq_true,if_false];rw[Qf];refine Qmq ?_;simp only[Qf,Jh hi,hsz,Nat.mul_one,Int.toNat_natCast]
 have fin:∀c:Array Value,(n≠0->c=z.cells)->Qr P (newRow e ((Array.range n).map (c[· % c.size]!))) (λ a U'=>∃U1,Qw U' U1/\K (.slice (some a) n n) U1) U:=by
  intro c hc;refine Jk λ b hb=>⟨_,.refl _,?_⟩
  have:(Array.range n).map (c[· % c.size]!)=(replicate n z).toArray:=by
   apply Array.ext
   .simp
   .intro i h1 h2;have hn0:n≠0:=by simp at h1;omega
    have hcz:=hc hn0;rw[hzc]at hcz;subst hcz;simp[Nat.mod_one]
  rw[this];exact h b hb
 split
 .rename_i h0;exact fin #[] λ h=>absurd h0 h
 .simp only[Qf,Qb7 hi hz];exact fin _ λ _=>rfl
def Zjf{t t' e ty:Nat}{s:ByteArray}{x:Operand}(hu:P.underlying t=some .string)(hu':P.underlying t'=some (.slice e))(hu8:P.underlying e=some (.int .u8))(hx:Zl f x=.string s)
  (h:∀b cap(c:Array Value)fr,U.free b->(∀(i:Nat)u,s.data[i]?=some u->c[i]?=some (.int .u8 u.toNat))->K (.slice (some ⟨b,0,none⟩) s.size cap) { U with I:=Qg0 U.I b (.cells c e fr) }) :
  OX S (.raw { dst:=none,op:=.convert t t' x,type:=ty,pos := "", after:=#[],guard:=none }) f K U:=by
 intro a' ha;simp only[execOp,ha,hx];refine rq ?_;unfold convert;simp only[Qf,Zg hu,Zg hu',Zg hu8,Conv.stringToBytes,choose];show ∀tt,Qr P _ _ U;intro tt;simp only[Qi,Qr];refine Jk λ b hb=>?_;unfold markStringish;simp only[Qf,shape];refine⟨_,.inr (mem_cons_self ..),?_⟩;simp only[Obj.shapeOf,Qr,freeze];refine⟨by decide,_,_,_,rfl,?_⟩;refine⟨_,Wf (b:=b) (M':=U.M) (Perm.refl _),?_⟩;refine h b _ _ _ hb λ i u hi=>?_;have hlt:=(Array.getElem?_eq_some_iff.1 hi).1;rw[Array.getElem?_append_left (by simpa using hlt)];simp[hi]
end Go.TM
