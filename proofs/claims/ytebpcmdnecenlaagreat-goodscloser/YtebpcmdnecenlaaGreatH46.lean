/- A part of the proof: lemmas that the last text uses. No conditions of its own. -/
import Derived.Test.YtebpcmdnecenlaaGreatH45
set_option linter.unusedSimpArgs false
set_option linter.unusedVariables false
namespace Go.TM
theorem ex7:(exTbl.kinF 0 1 [0] [2],exTbl.kinS 0 1 [0] [2])=(0,0,2):=by kernel_rfl
theorem ex7':((listS (exTbl.kinA 0 1 [0]).s),(listS (exTbl.kinA 0 1 [0]).c))=([0],[0,1]):=by kernel_rfl
theorem cls_ex {out:List Int} (h:exTbl.ClsOut 0 [0,1] out):out=[32,33]:=by
 unfold Tbl.ClsOut at h
 rw [if_pos ex2,ex2a] at h
 obtain⟨l',hp,hs,rfl⟩:=h
 refine asc_ext (cpt_asc l' none (srt_pw hs) (λ m hm=>by cases hm)).1 (by unfold Asc;decide) λ y=>?_
 constructor
 ·intro hy
  have:=hp.mem_iff.1 (cpt_mem _ _ _ hy)
  simp at this ⊢;omega
 ·intro hy
  rcases cpt_mem' l' none y (hp.mem_iff.2 (by simp at hy ⊢;omega)) with h | h
  ·exact h
  ·cases h
theorem rows_pairs {T:Type} {Z:View T} {b:Nat} {l:List (Int×Int)} (h:Blk Z b (l.flatMap encII).toArray):PairsV Z (some ⟨b,0,none⟩) l.length l:=rows_blk (n:=2) (λ _=>rfl) (by decide) h
end Go.TM
namespace Go.Proofs
open Go.TM
set_option maxRecDepth 100000
attribute [local irreducible] CallsV YieldV rngX
theorem Tryz.s49:StructOk Tryz.prog 49 (fsOf Tryz.prog 49):=.of (by kernel_rfl)
set_option maxHeartbeats 4000000 in
theorem Tryz.stocks_ok {Z:View Tk} (htok:Z.tok=⟨0,.out⟩):CallsV (SysG Tryz.prog 164 8) 26 #[] (λ v Z'=>v=.bool true/\Z'=Z) Z:=by
 refine CallsV.pure' (CallsV.of (args:=[]) Tryz.k26 Tryz.mixed (by simp) ?_)
 refine⟨Tryz.k63.any,Tryz.example_ok.mono ?_⟩
 rintro _ Z1 ⟨⟨h,rfl,ht⟩,h_1⟩ -
 conv=>whnf
 intro b1 hf1
 refine⟨_,.refl _,?_⟩
 refine⟨rfl,st_new (vs:=[.slice h.ea h.el h.ec,.slice h.ma h.ml h.mc,.slice h.ka h.kl h.kc]) hf1 rfl (by simp [Value.single]) λ s2 h2 hb1=>?_⟩
 have hb1:Blk s2 b1 #[.slice h.ea h.el h.ec,.slice h.ma h.ml h.mc,.slice h.ka h.kl h.kc]:=hb1
 have hle:Z.le s2:=h_1.trans h2
 have ht:TabV s2.frz h exTbl:=ht.lg (⟨h2.imm,⟨[],rfl⟩,h2.tok⟩:Z1.frz.lg s2.frz)
 refine⟨_,⟨rfl,hb1.rdT λ _ _ h=>h⟩,?_⟩
 conv=>whnf
 intro b3 hf3
 refine put_new hf3 λ s3 h3 hb3=>?_
 have i3:Ints s3.frz (some ⟨b3,0,none⟩) 2 [0,1]:=ints_blk (l:=[0,1]) hb3
 have hz:s2.frz.lg s3.frz:=⟨h3.imm,⟨[],rfl⟩,h3.tok⟩
 have hle:=hle.trans h3
 have hb1:=hb1.le h3
 have ht:=ht.lg hz
 clear hz h3
 refine⟨Tryz.k27.any,(Tryz.Classes_ok h exTbl (ht.lg frz_self) 0 (some ⟨b3,0,none⟩) 2 2 [0,1] (i3.lg frz_self) (by decide)).mono ?_⟩
 rintro _ s4 ⟨⟨v1,out,hv,hout,iCa,iCc,rfl,iC⟩,h4⟩ -
 rw [ex2] at hv
 subst hv
 obtain rfl:=cls_ex hout
 have hz:s3.frz.lg s4.frz:=⟨h4.imm,⟨[],rfl⟩,h4.tok⟩
 have hle:=hle.trans h4
 have hb1:=hb1.le h4
 have ht:=ht.lg hz
 have i3:=i3.lg hz
 clear hz h4
 refine⟨_,⟨rfl,hb1.rdT λ _ _ h=>h⟩,?_⟩
 conv=>whnf
 intro b5 hf5
 refine put_new hf5 λ s5 h5 hb5=>?_
 have i5:Ints s5.frz (some ⟨b5,0,none⟩) 1 [0]:=ints_blk (l:=[0]) hb5
 have hz:s4.frz.lg s5.frz:=⟨h5.imm,⟨[],rfl⟩,h5.tok⟩
 have hle:=hle.trans h5
 have hb1:=hb1.le h5
 have ht:=ht.lg hz
 have i3:=i3.lg hz
 have iC:=iC.lg hz
 clear hz h5
 refine⟨Tryz.k34.any,(Tryz.Move_ok h exTbl ht 0 1 (some ⟨b5,0,none⟩) 1 1 [0] (i5.lg frz_self) (by decide)).mono ?_⟩
 rintro _ s6 ⟨⟨v1,v2,hv,mA,mB⟩,h6⟩ -
 obtain⟨e1,e2,e3⟩:_=_/\_=_/\_=_:=by simpa only [Prod.mk.injEq] using ex3
 rw [e1] at hv
 rw [e2] at mA
 rw [e3] at mB
 clear e1 e2 e3
 obtain⟨mAa,mAc,rfl,mA⟩:=mA
 obtain⟨mBa,mBc,rfl,mB⟩:=mB
 subst hv
 have hz:s5.frz.lg s6.frz:=⟨h6.imm,⟨[],rfl⟩,h6.tok⟩
 have hle:=hle.trans h6
 have hb1:=hb1.le h6
 have ht:=ht.lg hz
 have i3:=i3.lg hz
 have iC:=iC.lg hz
 have i5:=i5.lg hz
 clear hz h6
 refine⟨_,⟨rfl,hb1.rdT λ _ _ h=>h⟩,?_⟩
 conv=>whnf
 intro b7 hf7
 refine put_new hf7 λ s7 h7 hb7=>?_
 have i7:Ints s7.frz (some ⟨b7,0,none⟩) 2 [0,1]:=ints_blk (l:=[0,1]) hb7
 have hz:s6.frz.lg s7.frz:=⟨h7.imm,⟨[],rfl⟩,h7.tok⟩
 have hle:=hle.trans h7
 have hb1:=hb1.le h7
 have ht:=ht.lg hz
 have i3:=i3.lg hz
 have iC:=iC.lg hz
 have i5:=i5.lg hz
 have mA:=mA.lg hz
 have mB:=mB.lg hz
 clear hz h7
 refine⟨Tryz.k34.any,(Tryz.Move_ok h exTbl ht 1 0 (some ⟨b7,0,none⟩) 2 2 [0,1] (i7.lg frz_self) (by decide)).mono ?_⟩
 rintro _ s8 ⟨⟨v1,v2,hv,mC,mD⟩,h8⟩ -
 obtain⟨e1,e2,e3⟩:_=_/\_=_/\_=_:=by simpa only [Prod.mk.injEq] using ex4
 rw [e1] at hv
 rw [e2] at mC
 rw [e3] at mD
 clear e1 e2 e3
 obtain⟨mCa,mCc,rfl,mC⟩:=mC
 obtain⟨mDa,mDc,rfl,mD⟩:=mD
 subst hv
 have hz:s7.frz.lg s8.frz:=⟨h8.imm,⟨[],rfl⟩,h8.tok⟩
 have hle:=hle.trans h8
 have hb1:=hb1.le h8
 have ht:=ht.lg hz
 have i3:=i3.lg hz
 have iC:=iC.lg hz
 have i5:=i5.lg hz
 have mA:=mA.lg hz
 have mB:=mB.lg hz
 have i7:=i7.lg hz
 clear hz h8
 refine⟨_,⟨rfl,hb1.rdT λ _ _ h=>h⟩,?_⟩
 conv=>whnf
 intro b9 hf9
 refine put_new hf9 λ s9 h9 hb9=>?_
 have i9:Ints s9.frz (some ⟨b9,0,none⟩) 3 [0,1,3]:=ints_blk (l:=[0,1,3]) hb9
 have hz:s8.frz.lg s9.frz:=⟨h9.imm,⟨[],rfl⟩,h9.tok⟩
 have hle:=hle.trans h9
 have hb1:=hb1.le h9
 have ht:=ht.lg hz
 have i3:=i3.lg hz
 have iC:=iC.lg hz
 have i5:=i5.lg hz
 have mA:=mA.lg hz
 have mB:=mB.lg hz
 have i7:=i7.lg hz
 have mC:=mC.lg hz
 have mD:=mD.lg hz
 clear hz h9
 conv=>whnf
 intro b10 hf10
 refine put_new hf10 λ s10 h10 hb10=>?_
 have i10:Ints s10.frz (some ⟨b10,0,none⟩) 1 [1]:=ints_blk (l:=[1]) hb10
 have hz:s9.frz.lg s10.frz:=⟨h10.imm,⟨[],rfl⟩,h10.tok⟩
 have hle:=hle.trans h10
 have hb1:=hb1.le h10
 have ht:=ht.lg hz
 have i3:=i3.lg hz
 have iC:=iC.lg hz
 have i5:=i5.lg hz
 have mA:=mA.lg hz
 have mB:=mB.lg hz
 have i7:=i7.lg hz
 have mC:=mC.lg hz
 have mD:=mD.lg hz
 have i9:=i9.lg hz
 clear hz h10
 conv=>whnf
 intro b11 hf11
 refine put_new hf11 λ s11 h11 hb11=>?_
 have i11:Ints s11.frz (some ⟨b11,0,none⟩) 2 [1,3]:=ints_blk (l:=[1,3]) hb11
 have hz:s10.frz.lg s11.frz:=⟨h11.imm,⟨[],rfl⟩,h11.tok⟩
 have hle:=hle.trans h11
 have hb1:=hb1.le h11
 have ht:=ht.lg hz
 have i3:=i3.lg hz
 have iC:=iC.lg hz
 have i5:=i5.lg hz
 have mA:=mA.lg hz
 have mB:=mB.lg hz
 have i7:=i7.lg hz
 have mC:=mC.lg hz
 have mD:=mD.lg hz
 have i9:=i9.lg hz
 have i10:=i10.lg hz
 clear hz h11
 conv=>whnf
 intro b12 hf12
 refine put_new hf12 λ s12 h12 hb12=>?_
 have hb12:Blk s12 b12 #[.slice (some ⟨b10,0,none⟩) 1 1,.bool false,.slice (some ⟨b11,0,none⟩) 2 2,.bool true]:=hb12
 have hz:s11.frz.lg s12.frz:=⟨h12.imm,⟨[],rfl⟩,h12.tok⟩
 have hle:=hle.trans h12
 have hb1:=hb1.le h12
 have ht:=ht.lg hz
 have i3:=i3.lg hz
 have iC:=iC.lg hz
 have i5:=i5.lg hz
 have mA:=mA.lg hz
 have mB:=mB.lg hz
 have i7:=i7.lg hz
 have mC:=mC.lg hz
 have mD:=mD.lg hz
 have i9:=i9.lg hz
 have i10:=i10.lg hz
 have i11:=i11.lg hz
 clear hz h12
 have hcuts:CutsV s12.frz (some ⟨b12,0,none⟩) 2 [⟨[1],false⟩,⟨[1,3],true⟩]:=by
  refine⟨rfl,λ i x hx=>?_⟩
  match i,hx with
  | 0,hx=>
   cases hx
   refine⟨_,[.slice (some ⟨b10,0,none⟩) 1 1,.bool false],rfl,rfl,⟨_,_,_,rfl,i10,by decide⟩,rfl,λ j v hv=>?_⟩
   rw [add_none,add_none]
   match j,hv with
   | 0,hv=>cases hv;exact Blk.sees (Z:=s12.frz) hb12 rfl
   | 1,hv=>cases hv;exact Blk.sees (Z:=s12.frz) hb12 rfl
   | n+2,hv=>simp at hv
  | 1,hx=>
   cases hx
   refine⟨_,[.slice (some ⟨b11,0,none⟩) 2 2,.bool true],rfl,rfl,⟨_,_,_,rfl,i11,by decide⟩,rfl,λ j v hv=>?_⟩
   rw [add_none,add_none]
   match j,hv with
   | 0,hv=>cases hv;exact Blk.sees (Z:=s12.frz) hb12 rfl
   | 1,hv=>cases hv;exact Blk.sees (Z:=s12.frz) hb12 rfl
   | n+2,hv=>simp at hv
  | n+2,hx=>simp at hx
 refine⟨Tryz.k37.any,(Tryz.Cut_ok h exTbl (ht.lg frz_self) 1 (some ⟨b9,0,none⟩) (some ⟨b12,0,none⟩) 3 3 2 2 [0,1,3] [⟨[1],false⟩,⟨[1,3],true⟩] (i9.lg frz_self) hcuts (by decide) (by decide)).mono ?_⟩
 rintro _ s13 ⟨⟨v1,hv,iL⟩,h13⟩ -
 clear hcuts
 obtain⟨e1,e2⟩:_=_/\_=_:=by simpa only [Prod.mk.injEq] using ex5
 rw [e1] at hv
 rw [e2] at iL
 clear e1 e2
 obtain⟨iLa,iLc,rfl,iL⟩:=iL
 subst hv
 have hz:s12.frz.lg s13.frz:=⟨h13.imm,⟨[],rfl⟩,h13.tok⟩
 have hle:=hle.trans h13
 have hb1:=hb1.le h13
 have ht:=ht.lg hz
 have i3:=i3.lg hz
 have iC:=iC.lg hz
 have i5:=i5.lg hz
 have mA:=mA.lg hz
 have mB:=mB.lg hz
 have i7:=i7.lg hz
 have mC:=mC.lg hz
 have mD:=mD.lg hz
 have i9:=i9.lg hz
 have i10:=i10.lg hz
 have i11:=i11.lg hz
 clear hz h13
 refine⟨_,⟨rfl,hb1.rdT λ _ _ h=>h⟩,?_⟩
 conv=>whnf
 intro b14 hf14
 refine put_new hf14 λ s14 h14 hb14=>?_
 have i14:Ints s14.frz (some ⟨b14,0,none⟩) 1 [0]:=ints_blk (l:=[0]) hb14
 have hz:s13.frz.lg s14.frz:=⟨h14.imm,⟨[],rfl⟩,h14.tok⟩
 have hle:=hle.trans h14
 have hb1:=hb1.le h14
 have ht:=ht.lg hz
 have i3:=i3.lg hz
 have iC:=iC.lg hz
 have i5:=i5.lg hz
 have mA:=mA.lg hz
 have mB:=mB.lg hz
 have i7:=i7.lg hz
 have mC:=mC.lg hz
 have mD:=mD.lg hz
 have i9:=i9.lg hz
 have i10:=i10.lg hz
 have i11:=i11.lg hz
 have iL:=iL.lg hz
 clear hz h14
 conv=>whnf
 intro b15 hf15
 refine put_new hf15 λ s15 h15 hb15=>?_
 have i15:Ints s15.frz (some ⟨b15,0,none⟩) 2 [0,2]:=ints_blk (l:=[0,2]) hb15
 have hz:s14.frz.lg s15.frz:=⟨h15.imm,⟨[],rfl⟩,h15.tok⟩
 have hle:=hle.trans h15
 have hb1:=hb1.le h15
 have ht:=ht.lg hz
 have i3:=i3.lg hz
 have iC:=iC.lg hz
 have i5:=i5.lg hz
 have mA:=mA.lg hz
 have mB:=mB.lg hz
 have i7:=i7.lg hz
 have mC:=mC.lg hz
 have mD:=mD.lg hz
 have i9:=i9.lg hz
 have i10:=i10.lg hz
 have i11:=i11.lg hz
 have iL:=iL.lg hz
 have i14:=i14.lg hz
 clear hz h15
 refine⟨Tryz.k39.any,(Tryz.Grows_ok h exTbl (ht.lg frz_self) 0 (some ⟨b14,0,none⟩) (some ⟨b15,0,none⟩) 1 1 2 2 [0] [0,2] (i14.lg frz_self) (i15.lg frz_self) (by decide) (by decide)).mono ?_⟩
 rintro _ s' ⟨hv,hs'⟩ -
 obtain rfl:=hs'.symm
 obtain⟨e1,e2⟩:_=_/\_=_:=by simpa only [Prod.mk.injEq] using ex6
 rw [e1,e2] at hv
 clear e1 e2
 subst hv
 refine⟨_,⟨rfl,hb1.rdT λ _ _ h=>h⟩,?_⟩
 conv=>whnf
 intro b16 hf16
 refine put_new hf16 λ s16 h16 hb16=>?_
 have i16:Ints s16.frz (some ⟨b16,0,none⟩) 1 [0]:=ints_blk (l:=[0]) hb16
 have hz:s15.frz.lg s16.frz:=⟨h16.imm,⟨[],rfl⟩,h16.tok⟩
 have hle:=hle.trans h16
 have hb1:=hb1.le h16
 have ht:=ht.lg hz
 have i3:=i3.lg hz
 have iC:=iC.lg hz
 have i5:=i5.lg hz
 have mA:=mA.lg hz
 have mB:=mB.lg hz
 have i7:=i7.lg hz
 have mC:=mC.lg hz
 have mD:=mD.lg hz
 have i9:=i9.lg hz
 have i10:=i10.lg hz
 have i11:=i11.lg hz
 have iL:=iL.lg hz
 have i14:=i14.lg hz
 have i15:=i15.lg hz
 clear hz h16
 conv=>whnf
 intro b17 hf17
 refine put_new hf17 λ s17 h17 hb17=>?_
 have i17:Ints s17.frz (some ⟨b17,0,none⟩) 1 [2]:=ints_blk (l:=[2]) hb17
 have hz:s16.frz.lg s17.frz:=⟨h17.imm,⟨[],rfl⟩,h17.tok⟩
 have hle:=hle.trans h17
 have hb1:=hb1.le h17
 have ht:=ht.lg hz
 have i3:=i3.lg hz
 have iC:=iC.lg hz
 have i5:=i5.lg hz
 have mA:=mA.lg hz
 have mB:=mB.lg hz
 have i7:=i7.lg hz
 have mC:=mC.lg hz
 have mD:=mD.lg hz
 have i9:=i9.lg hz
 have i10:=i10.lg hz
 have i11:=i11.lg hz
 have iL:=iL.lg hz
 have i14:=i14.lg hz
 have i15:=i15.lg hz
 have i16:=i16.lg hz
 clear hz h17
 have hN:exTbl.kinF 0 1 [0] [2]=0->(listS (exTbl.kinA 0 1 [0]).s).length<=8/\(listS (exTbl.kinA 0 1 [0]).c).length<=8:=λ _=>by
  obtain⟨e1,e2⟩:_=_/\_=_:=by simpa only [Prod.mk.injEq] using ex7'
  rw [e1,e2];decide
 refine⟨Tryz.k41.any,(Tryz.Kin_ok (hle.tok.trans htok) h exTbl ht 0 1 (some ⟨b16,0,none⟩) (some ⟨b17,0,none⟩) 1 1 1 1 [0] [2] (i16.lg frz_self) (i17.lg frz_self) (by decide) (by decide) hN).mono ?_⟩
 rintro _ s' ⟨hv,hs'⟩ -
 obtain rfl:=hs'.symm
 obtain⟨e1,e2⟩:_=_/\_=_:=by simpa only [Prod.mk.injEq] using ex7
 rw [e1,e2] at hv
 clear e1 e2 hN
 subst hv
 conv=>whnf
 intro b14 hf14
 refine⟨_,.refl _,?_⟩
 refine⟨rfl,st_new (vs:=[.int .i64 0,.int .i64 2]) hf14 rfl (by simp [Value.single]) λ s18 h18 hb14=>?_⟩
 have hb14:Blk s18 b14 #[.int .i64 0,.int .i64 2]:=hb14
 have hz:s17.frz.lg s18.frz:=⟨h18.imm,⟨[],rfl⟩,h18.tok⟩
 have hle:=hle.trans h18
 have hb1:=hb1.le h18
 have ht:=ht.lg hz
 have i3:=i3.lg hz
 have iC:=iC.lg hz
 have i5:=i5.lg hz
 have mA:=mA.lg hz
 have mB:=mB.lg hz
 have i7:=i7.lg hz
 have mC:=mC.lg hz
 have mD:=mD.lg hz
 have i9:=i9.lg hz
 have i10:=i10.lg hz
 have i11:=i11.lg hz
 have iL:=iL.lg hz
 have i14:=i14.lg hz
 have i15:=i15.lg hz
 have i16:=i16.lg hz
 have i17:=i17.lg hz
 clear hz h18
 refine⟨_,⟨rfl,hb1.rdT λ _ _ h=>h⟩,?_⟩
 conv=>whnf
 intro b19 hf19
 refine put_new hf19 λ s19 h19 hb19=>?_
 have i19:Ints s19.frz (some ⟨b19,0,none⟩) 2 [0,1]:=ints_blk (l:=[0,1]) hb19
 have hz:s18.frz.lg s19.frz:=⟨h19.imm,⟨[],rfl⟩,h19.tok⟩
 have hle:=hle.trans h19
 have hb1:=hb1.le h19
 have ht:=ht.lg hz
 have i3:=i3.lg hz
 have iC:=iC.lg hz
 have i5:=i5.lg hz
 have mA:=mA.lg hz
 have mB:=mB.lg hz
 have i7:=i7.lg hz
 have mC:=mC.lg hz
 have mD:=mD.lg hz
 have i9:=i9.lg hz
 have i10:=i10.lg hz
 have i11:=i11.lg hz
 have iL:=iL.lg hz
 have i14:=i14.lg hz
 have i15:=i15.lg hz
 have i16:=i16.lg hz
 have i17:=i17.lg hz
 have hb14:=hb14.le h19
 clear hz h19
 conv=>whnf
 intro b20 hf20
 refine put_new hf20 λ s20 h20 hb20=>?_
 have i20:Ints s20.frz (some ⟨b20,0,none⟩) 2 [1,2]:=ints_blk (l:=[1,2]) hb20
 have hz:s19.frz.lg s20.frz:=⟨h20.imm,⟨[],rfl⟩,h20.tok⟩
 have hle:=hle.trans h20
 have hb1:=hb1.le h20
 have ht:=ht.lg hz
 have i3:=i3.lg hz
 have iC:=iC.lg hz
 have i5:=i5.lg hz
 have mA:=mA.lg hz
 have mB:=mB.lg hz
 have i7:=i7.lg hz
 have mC:=mC.lg hz
 have mD:=mD.lg hz
 have i9:=i9.lg hz
 have i10:=i10.lg hz
 have i11:=i11.lg hz
 have iL:=iL.lg hz
 have i14:=i14.lg hz
 have i15:=i15.lg hz
 have i16:=i16.lg hz
 have i17:=i17.lg hz
 have hb14:=hb14.le h20
 have i19:=i19.lg hz
 clear hz h20
 refine⟨Tryz.k43.any,(Tryz.Pairs_ok h exTbl ht 0 3 (some ⟨b19,0,none⟩) (some ⟨b20,0,none⟩) 2 2 2 2 [0,1] [1,2] i19 i20 (by decide) (by decide)).mono ?_⟩
 rintro _ s21 ⟨⟨v1,ps,hv,hps,iP⟩,h21⟩ -
 obtain⟨e1,e2⟩:_=_/\_=_:=by simpa only [Prod.mk.injEq] using ex8
 rw [e1] at hv
 rw [e2] at hps
 clear e1 e2
 subst hps
 obtain⟨iPa,iPc,rfl,-,iP⟩:=iP
 subst hv
 have hz:s20.frz.lg s21.frz:=⟨h21.imm,⟨[],rfl⟩,h21.tok⟩
 have hle:=hle.trans h21
 have hb1:=hb1.le h21
 have ht:=ht.lg hz
 have i3:=i3.lg hz
 have iC:=iC.lg hz
 have i5:=i5.lg hz
 have mA:=mA.lg hz
 have mB:=mB.lg hz
 have i7:=i7.lg hz
 have mC:=mC.lg hz
 have mD:=mD.lg hz
 have i9:=i9.lg hz
 have i10:=i10.lg hz
 have i11:=i11.lg hz
 have iL:=iL.lg hz
 have i14:=i14.lg hz
 have i15:=i15.lg hz
 have i16:=i16.lg hz
 have i17:=i17.lg hz
 have hb14:=hb14.le h21
 have i19:=i19.lg hz
 have i20:=i20.lg hz
 clear hz h21
 refine⟨_,⟨rfl,hb1.rdT λ _ _ h=>h⟩,?_⟩
 conv=>whnf
 intro b22 hf22
 refine put_new hf22 λ s22 h22 hb22=>?_
 have i22:Ints s22.frz (some ⟨b22,0,none⟩) 2 [0,1]:=ints_blk (l:=[0,1]) hb22
 have hz:s21.frz.lg s22.frz:=⟨h22.imm,⟨[],rfl⟩,h22.tok⟩
 have hle:=hle.trans h22
 have hb1:=hb1.le h22
 have ht:=ht.lg hz
 have i3:=i3.lg hz
 have iC:=iC.lg hz
 have i5:=i5.lg hz
 have mA:=mA.lg hz
 have mB:=mB.lg hz
 have i7:=i7.lg hz
 have mC:=mC.lg hz
 have mD:=mD.lg hz
 have i9:=i9.lg hz
 have i10:=i10.lg hz
 have i11:=i11.lg hz
 have iL:=iL.lg hz
 have i14:=i14.lg hz
 have i15:=i15.lg hz
 have i16:=i16.lg hz
 have i17:=i17.lg hz
 have hb14:=hb14.le h22
 have i19:=i19.lg hz
 have i20:=i20.lg hz
 have iP:=RowsV.lg iP hz λ _ _ h=>h
 clear hz h22
 conv=>whnf
 intro b23 hf23
 refine put_new hf23 λ s23 h23 hb23=>?_
 have i23:Ints s23.frz (some ⟨b23,0,none⟩) 2 [1,2]:=ints_blk (l:=[1,2]) hb23
 have hz:s22.frz.lg s23.frz:=⟨h23.imm,⟨[],rfl⟩,h23.tok⟩
 have hle:=hle.trans h23
 have hb1:=hb1.le h23
 have ht:=ht.lg hz
 have i3:=i3.lg hz
 have iC:=iC.lg hz
 have i5:=i5.lg hz
 have mA:=mA.lg hz
 have mB:=mB.lg hz
 have i7:=i7.lg hz
 have mC:=mC.lg hz
 have mD:=mD.lg hz
 have i9:=i9.lg hz
 have i10:=i10.lg hz
 have i11:=i11.lg hz
 have iL:=iL.lg hz
 have i14:=i14.lg hz
 have i15:=i15.lg hz
 have i16:=i16.lg hz
 have i17:=i17.lg hz
 have hb14:=hb14.le h23
 have i19:=i19.lg hz
 have i20:=i20.lg hz
 have iP:=RowsV.lg iP hz λ _ _ h=>h
 have i22:=i22.lg hz
 clear hz h23
 have hL:exTbl.talkF 0 [0,1] [1,2] 3=0->(proofL [0,1] (exTbl.mostT ⟨0,3,[0,1],[1,2]⟩) (exTbl.reach ⟨0,3,[0,1],[1,2]⟩ [] [])).isSome=true:=λ _=>by
  show (proofL [0,1] (exTbl.mostT tkX) (exTbl.reach tkX [] [])).isSome=true
  rw [ex9a,exR,ex10];rfl
 have h12:exTbl.talkF 0 [0,1] [1,2] 3=0->∀x,(exTbl.reach ⟨0,3,[0,1],[1,2]⟩ x []).length<=64:=λ _ x=>Nat.le_trans (exTbl.reach_len _ x []) (by decide)
 refine⟨Tryz.k46.any,(Tryz.Agree_ok h exTbl ht 0 3 (some ⟨b22,0,none⟩) (some ⟨b23,0,none⟩) 2 2 2 2 [0,1] [1,2] i22 i23 (by decide) (by decide) hL h12).mono ?_⟩
 rintro _ s24 ⟨⟨va,vb,vp,la,lb,lp,hv,iX,iY,iQ,hag⟩,h24⟩ -
 have e1:exTbl.talkF 0 [0,1] [1,2] 3=0:=by have:=congrArg Prod.fst ex8;exact this
 rw [e1] at hv
 rw [if_pos e1] at hag
 obtain⟨hag1,hag2⟩:=hag
 have hag1:(la,lb)=exTbl.agr tkX:=hag1
 have hag2:proofL [0,1] (exTbl.mostT tkX) (exTbl.reach tkX [] [])=some lp:=hag2
 rw [ex9,Prod.mk.injEq] at hag1
 rw [ex9a,exR,ex10,Option.some.injEq] at hag2
 obtain⟨rfl,rfl⟩:=hag1
 subst hag2
 clear hL h12 e1
 obtain⟨iXa,iXc,rfl,-,iX⟩:=iX
 obtain⟨iYa,iYc,rfl,-,iY⟩:=iY
 obtain⟨iQa,iQc,rfl,-,iQ⟩:=iQ
 subst hv
 have hz:s23.frz.lg s24.frz:=⟨h24.imm,⟨[],rfl⟩,h24.tok⟩
 have hle:=hle.trans h24
 have hb1:=hb1.le h24
 have ht:=ht.lg hz
 have i3:=i3.lg hz
 have iC:=iC.lg hz
 have i5:=i5.lg hz
 have mA:=mA.lg hz
 have mB:=mB.lg hz
 have i7:=i7.lg hz
 have mC:=mC.lg hz
 have mD:=mD.lg hz
 have i9:=i9.lg hz
 have i10:=i10.lg hz
 have i11:=i11.lg hz
 have iL:=iL.lg hz
 have i14:=i14.lg hz
 have i15:=i15.lg hz
 have i16:=i16.lg hz
 have i17:=i17.lg hz
 have hb14:=hb14.le h24
 have i19:=i19.lg hz
 have i20:=i20.lg hz
 have iP:=RowsV.lg iP hz λ _ _ h=>h
 have i22:=i22.lg hz
 have i23:=i23.lg hz
 clear hz h24
 repeat refine⟨rfl,?_⟩
 conv=>whnf
 intro b25 hf25
 refine put_new hf25 λ s25 h25 hb25=>?_
 have i25:Ints s25.frz (some ⟨b25,0,none⟩) 2 [32,33]:=ints_blk (l:=[32,33]) hb25
 have hz:s24.frz.lg s25.frz:=⟨h25.imm,⟨[],rfl⟩,h25.tok⟩
 have hle:=hle.trans h25
 have hb1:=hb1.le h25
 have ht:=ht.lg hz
 have i3:=i3.lg hz
 have iC:=iC.lg hz
 have i5:=i5.lg hz
 have mA:=mA.lg hz
 have mB:=mB.lg hz
 have i7:=i7.lg hz
 have mC:=mC.lg hz
 have mD:=mD.lg hz
 have i9:=i9.lg hz
 have i10:=i10.lg hz
 have i11:=i11.lg hz
 have iL:=iL.lg hz
 have i14:=i14.lg hz
 have i15:=i15.lg hz
 have i16:=i16.lg hz
 have i17:=i17.lg hz
 have hb14:=hb14.le h25
 have i19:=i19.lg hz
 have i20:=i20.lg hz
 have iP:=RowsV.lg iP hz λ _ _ h=>h
 have i22:=i22.lg hz
 have i23:=i23.lg hz
 have iX:=iX.lg hz
 have iY:=iY.lg hz
 have iQ:=RowsV.lg iQ hz λ _ _ h=>h
 clear hz h25
 refine⟨Tryz.k33.any,(Tryz.same_ok iCa (some ⟨b25,0,none⟩) 2 iCc 2 2 [32,33] [32,33] (iC.lg frz_self) (i25.lg frz_self) (by decide)).mono ?_⟩
 rintro _ s' ⟨hv,hs'⟩ -
 obtain rfl:=hs'.symm
 rw [show decide ([32,33]=([32,33]:List (Int)))=true from by decide] at hv
 subst hv
 conv=>whnf
 intro b26 hf26
 refine put_new hf26 λ s26 h26 hb26=>?_
 have i26:Ints s26.frz (some ⟨b26,0,none⟩) 1 [0]:=ints_blk (l:=[0]) hb26
 have hz:s25.frz.lg s26.frz:=⟨h26.imm,⟨[],rfl⟩,h26.tok⟩
 have hle:=hle.trans h26
 have hb1:=hb1.le h26
 have ht:=ht.lg hz
 have i3:=i3.lg hz
 have iC:=iC.lg hz
 have i5:=i5.lg hz
 have mA:=mA.lg hz
 have mB:=mB.lg hz
 have i7:=i7.lg hz
 have mC:=mC.lg hz
 have mD:=mD.lg hz
 have i9:=i9.lg hz
 have i10:=i10.lg hz
 have i11:=i11.lg hz
 have iL:=iL.lg hz
 have i14:=i14.lg hz
 have i15:=i15.lg hz
 have i16:=i16.lg hz
 have i17:=i17.lg hz
 have hb14:=hb14.le h26
 have i19:=i19.lg hz
 have i20:=i20.lg hz
 have iP:=RowsV.lg iP hz λ _ _ h=>h
 have i22:=i22.lg hz
 have i23:=i23.lg hz
 have iX:=iX.lg hz
 have iY:=iY.lg hz
 have iQ:=RowsV.lg iQ hz λ _ _ h=>h
 have i25:=i25.lg hz
 clear hz h26
 refine⟨Tryz.k33.any,(Tryz.same_ok mAa (some ⟨b26,0,none⟩) 1 mAc 1 1 [0] [0] (mA.lg frz_self) (i26.lg frz_self) (by decide)).mono ?_⟩
 rintro _ s' ⟨hv,hs'⟩ -
 obtain rfl:=hs'.symm
 rw [show decide ([0]=([0]:List (Int)))=true from by decide] at hv
 subst hv
 conv=>whnf
 intro b27 hf27
 refine put_new hf27 λ s27 h27 hb27=>?_
 have i27:Ints s27.frz (some ⟨b27,0,none⟩) 2 [0,1]:=ints_blk (l:=[0,1]) hb27
 have hz:s26.frz.lg s27.frz:=⟨h27.imm,⟨[],rfl⟩,h27.tok⟩
 have hle:=hle.trans h27
 have hb1:=hb1.le h27
 have ht:=ht.lg hz
 have i3:=i3.lg hz
 have iC:=iC.lg hz
 have i5:=i5.lg hz
 have mA:=mA.lg hz
 have mB:=mB.lg hz
 have i7:=i7.lg hz
 have mC:=mC.lg hz
 have mD:=mD.lg hz
 have i9:=i9.lg hz
 have i10:=i10.lg hz
 have i11:=i11.lg hz
 have iL:=iL.lg hz
 have i14:=i14.lg hz
 have i15:=i15.lg hz
 have i16:=i16.lg hz
 have i17:=i17.lg hz
 have hb14:=hb14.le h27
 have i19:=i19.lg hz
 have i20:=i20.lg hz
 have iP:=RowsV.lg iP hz λ _ _ h=>h
 have i22:=i22.lg hz
 have i23:=i23.lg hz
 have iX:=iX.lg hz
 have iY:=iY.lg hz
 have iQ:=RowsV.lg iQ hz λ _ _ h=>h
 have i25:=i25.lg hz
 have i26:=i26.lg hz
 clear hz h27
 refine⟨Tryz.k33.any,(Tryz.same_ok mBa (some ⟨b27,0,none⟩) 2 mBc 2 2 [0,1] [0,1] (mB.lg frz_self) (i27.lg frz_self) (by decide)).mono ?_⟩
 rintro _ s' ⟨hv,hs'⟩ -
 obtain rfl:=hs'.symm
 rw [show decide ([0,1]=([0,1]:List (Int)))=true from by decide] at hv
 subst hv
 conv=>whnf
 intro b28 hf28
 refine put_new hf28 λ s28 h28 hb28=>?_
 have i28:Ints s28.frz (some ⟨b28,0,none⟩) 1 [0]:=ints_blk (l:=[0]) hb28
 have hz:s27.frz.lg s28.frz:=⟨h28.imm,⟨[],rfl⟩,h28.tok⟩
 have hle:=hle.trans h28
 have hb1:=hb1.le h28
 have ht:=ht.lg hz
 have i3:=i3.lg hz
 have iC:=iC.lg hz
 have i5:=i5.lg hz
 have mA:=mA.lg hz
 have mB:=mB.lg hz
 have i7:=i7.lg hz
 have mC:=mC.lg hz
 have mD:=mD.lg hz
 have i9:=i9.lg hz
 have i10:=i10.lg hz
 have i11:=i11.lg hz
 have iL:=iL.lg hz
 have i14:=i14.lg hz
 have i15:=i15.lg hz
 have i16:=i16.lg hz
 have i17:=i17.lg hz
 have hb14:=hb14.le h28
 have i19:=i19.lg hz
 have i20:=i20.lg hz
 have iP:=RowsV.lg iP hz λ _ _ h=>h
 have i22:=i22.lg hz
 have i23:=i23.lg hz
 have iX:=iX.lg hz
 have iY:=iY.lg hz
 have iQ:=RowsV.lg iQ hz λ _ _ h=>h
 have i25:=i25.lg hz
 have i26:=i26.lg hz
 have i27:=i27.lg hz
 clear hz h28
 refine⟨Tryz.k33.any,(Tryz.same_ok mCa (some ⟨b28,0,none⟩) 1 mCc 1 1 [0] [0] (mC.lg frz_self) (i28.lg frz_self) (by decide)).mono ?_⟩
 rintro _ s' ⟨hv,hs'⟩ -
 obtain rfl:=hs'.symm
 rw [show decide ([0]=([0]:List (Int)))=true from by decide] at hv
 subst hv
 conv=>whnf
 intro b29 hf29
 refine put_new hf29 λ s29 h29 hb29=>?_
 have i29:Ints s29.frz (some ⟨b29,0,none⟩) 2 [0,1]:=ints_blk (l:=[0,1]) hb29
 have hz:s28.frz.lg s29.frz:=⟨h29.imm,⟨[],rfl⟩,h29.tok⟩
 have hle:=hle.trans h29
 have hb1:=hb1.le h29
 have ht:=ht.lg hz
 have i3:=i3.lg hz
 have iC:=iC.lg hz
 have i5:=i5.lg hz
 have mA:=mA.lg hz
 have mB:=mB.lg hz
 have i7:=i7.lg hz
 have mC:=mC.lg hz
 have mD:=mD.lg hz
 have i9:=i9.lg hz
 have i10:=i10.lg hz
 have i11:=i11.lg hz
 have iL:=iL.lg hz
 have i14:=i14.lg hz
 have i15:=i15.lg hz
 have i16:=i16.lg hz
 have i17:=i17.lg hz
 have hb14:=hb14.le h29
 have i19:=i19.lg hz
 have i20:=i20.lg hz
 have iP:=RowsV.lg iP hz λ _ _ h=>h
 have i22:=i22.lg hz
 have i23:=i23.lg hz
 have iX:=iX.lg hz
 have iY:=iY.lg hz
 have iQ:=RowsV.lg iQ hz λ _ _ h=>h
 have i25:=i25.lg hz
 have i26:=i26.lg hz
 have i27:=i27.lg hz
 have i28:=i28.lg hz
 clear hz h29
 refine⟨Tryz.k33.any,(Tryz.same_ok mDa (some ⟨b29,0,none⟩) 2 mDc 2 2 [0,1] [0,1] (mD.lg frz_self) (i29.lg frz_self) (by decide)).mono ?_⟩
 rintro _ s' ⟨hv,hs'⟩ -
 obtain rfl:=hs'.symm
 rw [show decide ([0,1]=([0,1]:List (Int)))=true from by decide] at hv
 subst hv
 conv=>whnf
 intro b30 hf30
 refine put_new hf30 λ s30 h30 hb30=>?_
 have i30:Ints s30.frz (some ⟨b30,0,none⟩) 1 [3]:=ints_blk (l:=[3]) hb30
 have hz:s29.frz.lg s30.frz:=⟨h30.imm,⟨[],rfl⟩,h30.tok⟩
 have hle:=hle.trans h30
 have hb1:=hb1.le h30
 have ht:=ht.lg hz
 have i3:=i3.lg hz
 have iC:=iC.lg hz
 have i5:=i5.lg hz
 have mA:=mA.lg hz
 have mB:=mB.lg hz
 have i7:=i7.lg hz
 have mC:=mC.lg hz
 have mD:=mD.lg hz
 have i9:=i9.lg hz
 have i10:=i10.lg hz
 have i11:=i11.lg hz
 have iL:=iL.lg hz
 have i14:=i14.lg hz
 have i15:=i15.lg hz
 have i16:=i16.lg hz
 have i17:=i17.lg hz
 have hb14:=hb14.le h30
 have i19:=i19.lg hz
 have i20:=i20.lg hz
 have iP:=RowsV.lg iP hz λ _ _ h=>h
 have i22:=i22.lg hz
 have i23:=i23.lg hz
 have iX:=iX.lg hz
 have iY:=iY.lg hz
 have iQ:=RowsV.lg iQ hz λ _ _ h=>h
 have i25:=i25.lg hz
 have i26:=i26.lg hz
 have i27:=i27.lg hz
 have i28:=i28.lg hz
 have i29:=i29.lg hz
 clear hz h30
 refine⟨Tryz.k33.any,(Tryz.same_ok iLa (some ⟨b30,0,none⟩) 1 iLc 1 1 [3] [3] (iL.lg frz_self) (i30.lg frz_self) (by decide)).mono ?_⟩
 rintro _ s' ⟨hv,hs'⟩ -
 obtain rfl:=hs'.symm
 rw [show decide ([3]=([3]:List (Int)))=true from by decide] at hv
 subst hv
 repeat refine⟨rfl,?_⟩
 refine⟨[.int .i64 0,.int .i64 2],⟨rfl,Blk.rdI (vs:=[.int .i64 0,.int .i64 2]) hb14 (λ _ _ h=>h)⟩,?_⟩
 conv=>whnf
 refine raw_neS Tryz.s49 (vs:=[.int .i64 0,.int .i64 2]) (ws:=[.int .i64 0,.int .i64 2]) rfl rfl (by kernel_rfl) (by kernel_rfl) ?_
 repeat refine⟨rfl,?_⟩
 conv=>whnf
 intro b31 hf31
 refine put_new hf31 λ s31 h31 hb31=>?_
 have i31:PairsV s31.frz (some ⟨b31,0,none⟩) 2 [(0,1),(1,1)]:=rows_pairs (l:=[(0,1),(1,1)]) hb31
 have hz:s30.frz.lg s31.frz:=⟨h31.imm,⟨[],rfl⟩,h31.tok⟩
 have hle:=hle.trans h31
 have hb1:=hb1.le h31
 have ht:=ht.lg hz
 have i3:=i3.lg hz
 have iC:=iC.lg hz
 have i5:=i5.lg hz
 have mA:=mA.lg hz
 have mB:=mB.lg hz
 have i7:=i7.lg hz
 have mC:=mC.lg hz
 have mD:=mD.lg hz
 have i9:=i9.lg hz
 have i10:=i10.lg hz
 have i11:=i11.lg hz
 have iL:=iL.lg hz
 have i14:=i14.lg hz
 have i15:=i15.lg hz
 have i16:=i16.lg hz
 have i17:=i17.lg hz
 have hb14:=hb14.le h31
 have i19:=i19.lg hz
 have i20:=i20.lg hz
 have iP:=RowsV.lg iP hz λ _ _ h=>h
 have i22:=i22.lg hz
 have i23:=i23.lg hz
 have iX:=iX.lg hz
 have iY:=iY.lg hz
 have iQ:=RowsV.lg iQ hz λ _ _ h=>h
 have i25:=i25.lg hz
 have i26:=i26.lg hz
 have i27:=i27.lg hz
 have i28:=i28.lg hz
 have i29:=i29.lg hz
 have i30:=i30.lg hz
 clear hz h31
 refine⟨Tryz.k45.any,(Tryz.samePairs_ok iPa (some ⟨b31,0,none⟩) 2 iPc 2 2 [(0,1),(1,1)] [(0,1),(1,1)] (RowsV.lg iP frz_self λ _ _ h=>h) (RowsV.lg i31 frz_self λ _ _ h=>h) (by decide)).mono ?_⟩
 rintro _ s' ⟨hv,hs'⟩ -
 obtain rfl:=hs'.symm
 rw [show decide ([(0,1),(1,1)]=([(0,1),(1,1)]:List (Int×Int)))=true from by decide] at hv
 subst hv
 repeat refine⟨rfl,?_⟩
 conv=>whnf
 intro b32 hf32
 refine put_new hf32 λ s32 h32 hb32=>?_
 have i32:Ints s32.frz (some ⟨b32,0,none⟩) 1 [1]:=ints_blk (l:=[1]) hb32
 have hz:s31.frz.lg s32.frz:=⟨h32.imm,⟨[],rfl⟩,h32.tok⟩
 have hle:=hle.trans h32
 have hb1:=hb1.le h32
 have ht:=ht.lg hz
 have i3:=i3.lg hz
 have iC:=iC.lg hz
 have i5:=i5.lg hz
 have mA:=mA.lg hz
 have mB:=mB.lg hz
 have i7:=i7.lg hz
 have mC:=mC.lg hz
 have mD:=mD.lg hz
 have i9:=i9.lg hz
 have i10:=i10.lg hz
 have i11:=i11.lg hz
 have iL:=iL.lg hz
 have i14:=i14.lg hz
 have i15:=i15.lg hz
 have i16:=i16.lg hz
 have i17:=i17.lg hz
 have hb14:=hb14.le h32
 have i19:=i19.lg hz
 have i20:=i20.lg hz
 have iP:=RowsV.lg iP hz λ _ _ h=>h
 have i22:=i22.lg hz
 have i23:=i23.lg hz
 have iX:=iX.lg hz
 have iY:=iY.lg hz
 have iQ:=RowsV.lg iQ hz λ _ _ h=>h
 have i25:=i25.lg hz
 have i26:=i26.lg hz
 have i27:=i27.lg hz
 have i28:=i28.lg hz
 have i29:=i29.lg hz
 have i30:=i30.lg hz
 have i31:=RowsV.lg i31 hz λ _ _ h=>h
 clear hz h32
 refine⟨Tryz.k33.any,(Tryz.same_ok iYa (some ⟨b32,0,none⟩) 1 iYc 1 1 [1] [1] (iY.lg frz_self) (i32.lg frz_self) (by decide)).mono ?_⟩
 rintro _ s' ⟨hv,hs'⟩ -
 obtain rfl:=hs'.symm
 rw [show decide ([1]=([1]:List (Int)))=true from by decide] at hv
 subst hv
 conv=>whnf
 intro b33 hf33
 refine put_new hf33 λ s33 h33 hb33=>?_
 have i33:PairsV s33.frz (some ⟨b33,0,none⟩) 1 [(0,1)]:=rows_pairs (l:=[(0,1)]) hb33
 have hz:s32.frz.lg s33.frz:=⟨h33.imm,⟨[],rfl⟩,h33.tok⟩
 have hle:=hle.trans h33
 have hb1:=hb1.le h33
 have ht:=ht.lg hz
 have i3:=i3.lg hz
 have iC:=iC.lg hz
 have i5:=i5.lg hz
 have mA:=mA.lg hz
 have mB:=mB.lg hz
 have i7:=i7.lg hz
 have mC:=mC.lg hz
 have mD:=mD.lg hz
 have i9:=i9.lg hz
 have i10:=i10.lg hz
 have i11:=i11.lg hz
 have iL:=iL.lg hz
 have i14:=i14.lg hz
 have i15:=i15.lg hz
 have i16:=i16.lg hz
 have i17:=i17.lg hz
 have hb14:=hb14.le h33
 have i19:=i19.lg hz
 have i20:=i20.lg hz
 have iP:=RowsV.lg iP hz λ _ _ h=>h
 have i22:=i22.lg hz
 have i23:=i23.lg hz
 have iX:=iX.lg hz
 have iY:=iY.lg hz
 have iQ:=RowsV.lg iQ hz λ _ _ h=>h
 have i25:=i25.lg hz
 have i26:=i26.lg hz
 have i27:=i27.lg hz
 have i28:=i28.lg hz
 have i29:=i29.lg hz
 have i30:=i30.lg hz
 have i31:=RowsV.lg i31 hz λ _ _ h=>h
 have i32:=i32.lg hz
 clear hz h33
 refine⟨Tryz.k45.any,(Tryz.samePairs_ok iQa (some ⟨b33,0,none⟩) 1 iQc 1 1 [(0,1)] [(0,1)] (RowsV.lg iQ frz_self λ _ _ h=>h) (RowsV.lg i33 frz_self λ _ _ h=>h) (by decide)).mono ?_⟩
 rintro _ s' ⟨hv,hs'⟩ -
 obtain rfl:=hs'.symm
 rw [show decide ([(0,1)]=([(0,1)]:List (Int×Int)))=true from by decide] at hv
 subst hv
 repeat refine⟨rfl,?_⟩
 conv=>whnf
 exact hle.lg
end Go.Proofs
namespace Go.TM
def edIts:List GItem->List ByteArray->Int
 | [],_=>0
 | it::r,p=>if nameOk it.name then (if inS it.name p then 5 else if btw it.cls 1 45 then edIts r (p++[it.name]) else 1) else 4
def edF (l:List GItem):Int:=if 8<l.length then 2 else edIts l []
def edsF:List (List GItem)->Int
 | []=>0
 | l::r=>if edF l=0 then edsF r else edF l
theorem chkIts_eq (e:Int):∀(l:List GItem) (s:List (Int×ByteArray)) (p:List ByteArray),(∀n,(e,n)∈s↔n∈p)->(chkIts e l s).1=edIts l p/\∀q∈(chkIts e l s).2,q∈s\/q.1=e
 | [],s,p,_=>⟨rfl,λ q hq=>.inl hq⟩
 | it::r,s,p,h=>by
  have hin:inS (e,it.name) s=inS it.name p:=by unfold inS;rw [Bool.eq_iff_iff];simp [h]
  unfold chkIts edIts chkIt
  rw [hin]
  cases h1:nameOk it.name with
  | false=>exact⟨by simp,λ q hq=>.inl (by simpa using hq)⟩
  | true=>
   cases h2:inS it.name p with
   | true=>exact⟨by simp,λ q hq=>.inl (by simpa using hq)⟩
   | false=>
    cases h3:btw it.cls 1 45 with
    | false=>exact⟨by simp,λ q hq=>.inl (by simpa using hq)⟩
    | true=>
     have ih:=chkIts_eq e r (s++[(e,it.name)]) (p++[it.name]) (λ n=>by simp [h])
     simp only [if_true,Bool.false_eq_true,if_false]
     refine⟨ih.1,λ q hq=>?_⟩
     rcases ih.2 q hq with hq | hq
     ·rcases List.mem_append.1 hq with hq | hq
      ·exact .inl hq
      ·simp at hq;exact .inr (by rw [hq])
     ·exact .inr hq
theorem chkEds_eq:∀(ls:List (List GItem)) (e:Int) (s:List (Int×ByteArray)),(∀q∈s,q.1<e)->chkEds e ls s=edsF ls
 | [],_,_,_=>rfl
 | l::r,e,s,h=>by
  unfold chkEds edsF edF
  by_cases h8:8<l.length
  ·simp [h8]
  ·have k:=chkIts_eq e l s [] (λ n=>by simp;intro hn;have:=h _ hn;simp at this)
   simp only [h8,if_false,k.1]
   by_cases h0:edIts l []=0
   ·simp only [h0,if_true]
    refine chkEds_eq r (e+1) _ λ q hq=>?_
    rcases k.2 q hq with hq | hq
    ·have:=h q hq;omega
    ·omega
   ·simp [h0]
theorem Tbl.chkItems_eq (t:Tbl):t.chkItems=if btw t.eds.length 1 3 then edsF t.eds else 2:=by
 unfold Tbl.chkItems
 rw [chkEds_eq t.eds 0 [] (λ q h=>by cases h)]
def letB (c:UInt8):Bool:=btw (c.toNat:Int) 97 122
def digB (c:UInt8):Bool:=btw (c.toNat:Int) 48 57
theorem badCh_eq (c:UInt8):badCh c=(!letB c && !digB c):=by
 unfold badCh letB digB btw
 rw [Bool.eq_iff_iff]
 simp
def nmTo:List UInt8->Nat->Bool
 | [],_=>true
 | c::r,i=>(letB c || (digB c && !decide (i=0))) && nmTo r (i+1)
theorem nmTo_any:∀(l:List UInt8) (i:Nat),0<i->nmTo l i=!(l.any badCh)
 | [],_,_=>rfl
 | c::r,i,h=>by
  rw [nmTo,nmTo_any r (i+1) (by omega),List.any_cons,badCh_eq,Bool.not_or,Bool.not_and,Bool.not_not,Bool.not_not]
  have:decide (i=0)=false:=decide_eq_false (by omega)
  rw [this]
  cases letB c <;> cases digB c <;> rfl
theorem nameOk_eq (s:ByteArray):nameOk s=(btw s.size 1 10 && nmTo s.data.toList 0):=by
 unfold nameOk
 have hsz:s.size=s.data.toList.length:=(Array.length_toList (xs:=s.data)).symm
 cases h:s.data.toList with
 | nil=>
  have:btw (s.size:Int) 1 10=false:=by unfold btw;rw [hsz,h];rfl
  rw [this];rfl
 | cons c r=>
  congr 1
  rw [nmTo,nmTo_any r 1 (by omega),List.any_cons,badCh_eq,Bool.not_or,Bool.not_and,Bool.not_not,Bool.not_not]
  have e1:(!(decide ((c.toNat:Int)<97)) && !(decide ((c.toNat:Int) > 122)))=letB c:=by
   unfold letB btw;rw [Bool.eq_iff_iff];simp only [Bool.and_eq_true,Bool.not_eq_true',decide_eq_false_iff_not,decide_eq_true_eq];omega
  simp only [e1]
  cases letB c <;> simp
theorem wrap_u8 (c:UInt8):IntKind.wrap .i64 (c.toNat:Int)=c.toNat:=by
 have:=c.toNat_lt
 simp only [IntKind.wrap,IntKind.signed,IntKind.bits]
 simp
 omega
theorem ba_loop (s:ByteArray):∀(n i:Nat) (r:List UInt8),s.size-i=n->ByteArray.toList.loop s i r=r.reverse++s.data.toList.drop i:=by
 intro n
 induction n with
 | zero=>
  intro i r h
  have hsz:s.size=s.data.toList.length:=(Array.length_toList (xs:=s.data)).symm
  rw [ByteArray.toList.loop,if_neg (by omega),List.drop_eq_nil_of_le (by omega)];simp
 | succ n ih=>
  intro i r h
  have hsz:s.size=s.data.toList.length:=(Array.length_toList (xs:=s.data)).symm
  rw [ByteArray.toList.loop,if_pos (by omega),ih (i+1) _ (by omega)]
  have:s.get! i=s.data.toList[i]'(by omega):=by
   have h1:s.get! i=s.data[i]!:=rfl
   rw [h1,getElem!_pos s.data i (by rw [Array.length_toList] at hsz;omega)];rfl
  rw [this,List.reverse_cons,List.append_assoc,List.drop_eq_getElem_cons (by omega:i<s.data.toList.length)];rfl
theorem ba_toList (s:ByteArray):s.toList=s.data.toList:=by
 have:=ba_loop s _ 0 [] rfl
 simpa [ByteArray.toList] using this
theorem teq_dec (a b:ByteArray):(a.toList == b.toList)=decide (a=b):=by
 rw [ba_toList,ba_toList,Bool.eq_iff_iff,beq_iff_eq,decide_eq_true_iff]
 constructor
 ·intro h
  exact ByteArray.ext (Array.ext' h)
 ·rintro rfl;rfl
theorem inS_snoc {κ:Type} [DecidableEq κ] (k x:κ) (s:List κ):inS k (s++[x])=(inS k s || decide (k=x)):=by
 unfold inS;rw [Bool.eq_iff_iff];simp
theorem inS_mem {κ:Type} [DecidableEq κ] {k:κ} {s:List κ}:inS k s=true↔k∈s:=by unfold inS;exact decide_eq_true_iff
theorem bget' {s:ByteArray} {i:Nat} {c:UInt8} (h:s.data.toList[i]?=some c):s[i]?=some c:=by
 rw [<- h]
 have:s[i]?=s.data[i]?:=rfl
 rw [this,Array.getElem?_toList]
end Go.TM
namespace Go.Proofs
open Go.TM
set_option maxRecDepth 100000
variable {T:Type} {S:TM.Sys Tryz.prog T} {Z:View T}
attribute [local irreducible] CallsV YieldV rngX
theorem Tryz.named_ok (s:ByteArray) (hs:s.size<2 ^ 60):CallsV S 114 #[.string s] (λ v Z'=>v=.bool (nameOk s)/\Z'=Z) Z:=by
 refine CallsV.pure' (CallsV.of (args:=[_]) Tryz.k114 Tryz.mixed (by simp) ?_)
 rw [nameOk_eq]
 have hsz:s.size=s.data.toList.length:=(Array.length_toList (xs:=s.data)).symm
 repeat refine⟨rfl,?_⟩
 conv=>whnf
 apply gb_split<;>intro hc
 ·have h0:s.size≠0:=by simpa using hc
  repeat refine⟨rfl,?_⟩
  conv=>whnf
  apply cb_split<;>intro hc
  ·have:btw s.size 1 10=false:=by unfold btw;simp at hc ⊢;omega
   rw [this]
   repeat refine⟨rfl,?_⟩
   conv=>whnf
   exact (View.le.refl _).lg
  ·have:btw s.size 1 10=true:=by unfold btw;simp at hc ⊢;omega
   rw [this,Bool.true_and]
   refine⟨Nat,λ i=>[(0,.string s),(3,.int .i64 i)],λ i Z'=>Z.le Z'/\i<=s.size/\nmTo s.data.toList 0=nmTo (s.data.toList.drop i) i,λ i=>s.size-i,0,⟨rfl,rfl,trivial⟩,⟨.refl _,by omega,rfl⟩,?_⟩
   rintro i f Z₀ ⟨hle0,hi,hinv⟩
   repeat refine⟨rfl,?_⟩
   conv=>whnf
   apply cb_split<;>intro hc
   ·have hlt:i<s.size:=by simpa using hc
    obtain⟨c,hx⟩:∃c,s.data.toList[i]?=some c:=⟨_,List.getElem?_eq_getElem (by omega)⟩
    rw [drop_at hx,nmTo] at hinv
    refine⟨i,c,⟨rfl,bget' hx⟩,?_⟩
    refine⟨.bool (letB c),λ Z' hle _=>?_,?_⟩
    ·refine⟨Tryz.k71.any,(Tryz.in_ok _ _ _ _).mono ?_⟩
     rintro _ Z'' ⟨rfl,hZ⟩ -
     exact⟨by rw [wrap_u8];rfl,_,.refl _,hZ ▸ .refl _⟩
    refine⟨i,c,⟨rfl,bget' hx⟩,?_⟩
    conv=>whnf
    intro Z1 hle _
    refine⟨Tryz.k71.any,(Tryz.in_ok _ _ _ _).go λ _=>?_⟩
    rw [wrap_u8]
    have hin:InR (i+1):=by unfold InR;omega
    have next:nmTo s.data.toList 0=nmTo (s.data.toList.drop (i+1)) (i+1)->i+1<=s.size/\nmTo s.data.toList 0=nmTo (s.data.toList.drop (i+1)) (i+1):=λ h=>⟨by omega,h⟩
    repeat refine⟨rfl,?_⟩
    conv=>whnf
    apply gb_split<;>intro hc
    ·have h1:letB c=false:=by simpa using hc
     repeat refine⟨rfl,?_⟩
     conv=>whnf
     apply gb_split<;>intro hc
     ·have h2:digB c=true:=by simpa [digB] using hc
      repeat refine⟨rfl,?_⟩
      conv=>whnf
      apply cb_split<;>intro hc
      ·have h3:i=0:=by simpa using hc
       repeat refine⟨rfl,?_⟩
       conv=>whnf
       exact⟨by rw [hinv,h1,h3];simp,(hle0.trans hle).lg⟩
      ·have h3:i≠0:=by simpa using hc
       refine⟨hin,?_⟩
       refine⟨rfl,i+1,⟨rfl,rfl,trivial⟩,⟨hle0.trans hle,next (by rw [hinv,h1,h2];simp [h3])⟩,by show _-_<_-_;omega⟩
     ·have h2:digB c=false:=by simpa [digB] using hc
      repeat refine⟨rfl,?_⟩
      conv=>whnf
      exact⟨by rw [hinv,h1,h2];simp,(hle0.trans hle).lg⟩
    ·have h1:letB c=true:=by simpa using hc
     repeat refine⟨rfl,?_⟩
     refine⟨hin,?_⟩
     refine⟨rfl,i+1,⟨rfl,rfl,trivial⟩,⟨hle0.trans hle,next (by rw [hinv,h1];simp)⟩,by show _-_<_-_;omega⟩
   ·have hge:s.size<=i:=by simpa using hc
    rw [List.drop_eq_nil_of_le (by omega)] at hinv
    repeat refine⟨rfl,?_⟩
    conv=>whnf
    exact⟨by rw [hinv];rfl,hle0.lg⟩
 ·have h0:s.size=0:=by simpa using hc
  have:btw s.size 1 10=false:=by unfold btw;rw [h0];rfl
  rw [this]
  repeat refine⟨rfl,?_⟩
  conv=>whnf
  exact (View.le.refl _).lg
theorem Tryz.checkEdition_ok (a:Option Addr) (len cap:Nat) (l:List GItem) (hl:RowsV Z a len 2 l λ it vs=>vs=[.string it.name,.int .i64 it.cls]) (hlen:len<2 ^ 60) (hn:∀it∈l,it.name.size<2 ^ 60) :
  CallsV S 72 #[.agg #[.slice a len cap]] (λ v Z'=>v=.int .i64 (edF l)/\Z'=Z) Z:=by
 refine CallsV.pure' (CallsV.of (args:=[_]) Tryz.k72 Tryz.mixed (by simp) ?_)
 have hll:=hl.1
 repeat refine⟨rfl,?_⟩
 conv=>whnf
 intro b Z1 h_1 hb
 have hb:Blk Z1 b #[.slice a len cap]:=hb
 refine⟨_,hb.sees3 (o:=0) rfl,?_⟩
 repeat refine⟨rfl,?_⟩
 conv=>whnf
 apply cb_split<;>intro hc
 ·have h8:8<l.length:=by rw [hll];simp at hc;omega
  repeat refine⟨rfl,?_⟩
  conv=>whnf
  exact⟨by unfold edF;rw [if_pos h8],h_1.lg⟩
 have h8:¬8<l.length:=by rw [hll];simp at hc;omega
 have hspec:edF l=edIts l []:=by unfold edF;rw [if_neg h8]
 rw [hspec]
 refine⟨Nat,λ i=>[(1,.pointer (some ⟨b,0,none⟩)),(3,.int .i64 i)],λ i Z'=>Z1.le Z'/\i<=len/\edIts l []=edIts (l.drop i) ((l.take i).map (·.name)),λ i=>len-i,0,⟨rfl,rfl,trivial⟩,⟨.refl _,by omega,rfl⟩,?_⟩
 rintro i f Z2 ⟨h_2,hi,hinv⟩
 refine⟨_,(hb.le h_2).sees3 (o:=0) rfl,?_⟩
 repeat refine⟨rfl,?_⟩
 conv=>whnf
 apply cb_split<;>intro hc
 ·have hlt:i<len:=by simpa using hc
  obtain⟨ad,it,vs,hx,rfl,hsp,rfl,-,hrd⟩:=(hl.lg (h_1.trans h_2).lg (λ _ _ h=>h)).at hlt
  have hin:InR (i+1):=by unfold InR;omega
  rw [drop_at hx,edIts] at hinv
  refine⟨_,(hb.le h_2).sees3 (o:=0) rfl,?_⟩
  refine⟨ad,i,⟨rfl,rfl,hlt⟩,?_⟩
  refine⟨_,hrd 0 _ rfl,?_⟩
  refine⟨Tryz.k114.any,(Tryz.named_ok it.name (hn it (List.mem_of_getElem? hx))).go λ _=>?_⟩
  repeat refine⟨rfl,?_⟩
  conv=>whnf
  apply cb_split<;>intro hc
  ·have h1:nameOk it.name=false:=by simpa using hc
   repeat refine⟨rfl,?_⟩
   conv=>whnf
   exact⟨by rw [hinv,h1];rfl,(h_1.trans h_2).lg⟩
  have h1:nameOk it.name=true:=by simpa using hc
  rw [if_pos h1] at hinv
  refine⟨Nat,λ k=>[(1,.pointer (some ⟨b,0,none⟩)),(3,.int .i64 i),(4,.int .i64 k)],λ k Z'=>Z2.le Z'/\k<=i/\inS it.name ((l.take k).map (·.name))=false,λ k=>i-k,0,⟨rfl,rfl,rfl,trivial⟩,⟨.refl _,by omega,rfl⟩,?_⟩
  rintro k f Z3 ⟨h_3,hk,hno⟩
  have hb_3:=hb.le (h_2.trans h_3)
  repeat refine⟨rfl,?_⟩
  conv=>whnf
  apply cb_split<;>intro hc
  ·have hlk:k<i:=by simpa using hc
   obtain⟨_,it',vs,hx',e,hsp',rfl,-,hrd'⟩:=(hl.lg (h_1.trans h_2).lg (λ _ _ h=>h)).at (show k<len by omega)
   cases e
   refine⟨_,hb_3.sees3 (o:=0) rfl,?_⟩
   refine⟨ad,k,⟨rfl,rfl,by omega⟩,?_⟩
   refine⟨_,(hrd' 0 _ rfl).lg h_3.lg,?_⟩
   refine⟨_,hb_3.sees3 (o:=0) rfl,?_⟩
   refine⟨ad,i,⟨rfl,rfl,hlt⟩,?_⟩
   refine⟨_,(hrd 0 _ rfl).lg h_3.lg,?_⟩
   conv=>whnf
   intro Z4 h_4 _
   repeat refine⟨rfl,?_⟩
   conv=>whnf
   rw [teq_dec]
   apply cb_split<;>intro hc
   ·have he:it'.name=it.name:=by simpa using hc
    have hs:inS it.name ((l.take i).map (·.name))=true:=by
     refine inS_mem.2 (List.mem_map.2 ?_)
     exact⟨it',List.mem_of_getElem? (i:=k) (by rw [List.getElem?_take,if_pos hlk];exact hx'),he⟩
    repeat refine⟨rfl,?_⟩
    conv=>whnf
    exact⟨by rw [hinv,hs];rfl,(h_1.trans (h_2.trans (h_3.trans h_4))).lg⟩
   ·have he:it'.name≠it.name:=by simpa using hc
    refine⟨by unfold InR;omega,?_⟩
    refine⟨rfl,k+1,⟨rfl,rfl,rfl,trivial⟩,⟨h_3.trans h_4,by omega,?_⟩,by show _-_<_-_;omega⟩
    rw [take_at hx',List.map_append,List.map_cons,List.map_nil,inS_snoc,hno]
    simpa using Ne.symm he
  ·have hge:i<=k:=by simpa using hc
   obtain rfl:k=i:=by omega
   rw [if_neg (by rw [hno];simp)] at hinv
   refine⟨_,hb_3.sees3 (o:=0) rfl,?_⟩
   refine⟨ad,k,⟨rfl,rfl,hlt⟩,?_⟩
   refine⟨_,(hrd 1 _ rfl).lg h_3.lg,?_⟩
   refine⟨Tryz.k71.any,(Tryz.in_ok _ _ _ _).go λ _=>?_⟩
   repeat refine⟨rfl,?_⟩
   conv=>whnf
   apply cb_split<;>intro hc
   ·have h2:btw it.cls 1 45=false:=by simpa using hc
    repeat refine⟨rfl,?_⟩
    conv=>whnf
    exact⟨by rw [hinv,h2];rfl,(h_1.trans (h_2.trans h_3)).lg⟩
   ·have h2:btw it.cls 1 45=true:=by simpa using hc
    rw [if_pos h2] at hinv
    refine⟨hin,?_⟩
    refine⟨rfl,k+1,⟨rfl,rfl,trivial⟩,⟨h_2.trans h_3,by omega,?_⟩,by show _-_<_-_;omega⟩
    rw [hinv,take_at hx,List.map_append];rfl
 ·have hge:len<=i:=by simpa using hc
  rw [List.drop_eq_nil_of_le (by omega)] at hinv
  repeat refine⟨rfl,?_⟩
  conv=>whnf
  exact⟨by rw [hinv];rfl,(h_1.trans h_2).lg⟩
end Go.Proofs
namespace Go.TM
variable {T:Type} {Z:View T}
theorem Tbl.isEd_at {Z:View T} {h:TH} {t:Tbl} (ht:TabV Z h t) {e:Int} (he:t.isEd e=true) :
  ∃(k:Nat) (ad:Addr) (a:Option Addr) (len cap:Nat),e=k/\k<h.el/\h.ea=some ad/\Z.sees ((ad.add (k*1)).add 0) (.slice a len cap)/\RowsV Z a len 2 (t.items e) (λ it vs=>vs=[.string it.name,.int .i64 it.cls]):=by
 have hb:=Tbl.isEd_lt he
 have hel:=ht.eds.1
 obtain⟨k,rfl⟩:=Int.eq_ofNat_of_zero_le hb.1
 obtain⟨ad,x,vs,hx,hea,hsp,⟨v,rfl,a,len,cap,rfl,hr⟩,-,hrd⟩:=ht.eds.at (show k<h.el by omega)
 refine⟨k,ad,a,len,cap,rfl,by omega,hea,hrd 0 _ rfl,?_⟩
 have:t.items (k:Int)=x:=by unfold Tbl.items;rw [if_pos he,List.getD_eq_getElem?_getD,Int.toNat_natCast,hx];rfl
 rw [this];exact hr
theorem Tbl.isItem_btw (t:Tbl) (e n:Int):btw n 0 ((t.items e).length-1)=t.isItem e n:=rfl
theorem Tbl.ed2 (t:Tbl) (e:Int):btw e 0 (t.eds.length-2)=(t.isEd e && t.isEd (e+1)):=by
 unfold Tbl.isEd btw
 rw [Bool.eq_iff_iff]
 simp only [Bool.and_eq_true,decide_eq_true_eq]
 omega
theorem eqv3 (a b c a' b' c':Int):eqvL [.int .i64 a',.int .i64 b',.int .i64 c'] [.int .i64 a,.int .i64 b,.int .i64 c]=decide ((a,b,c)=(a',b',c')):=by
 simp only [eqvL,eqv]
 rw [Bool.eq_iff_iff]
 simp only [Bool.and_eq_true,beq_iff_eq,decide_eq_true_iff,Prod.mk.injEq,and_true]
 constructor
 ·rintro⟨h1,h2,h3⟩;exact⟨h1.symm,h2.symm,h3.symm⟩
 ·rintro⟨h1,h2,h3⟩;exact⟨h1.symm,h2.symm,h3.symm⟩
def mv3 (m:GMv):Int×Int×Int:=(m.ed,m.fr,m.to)
def kn3 (k:GKn):Int×Int×Int:=(k.ed,k.one,k.two)
end Go.TM
namespace Go.Proofs
open Go.TM
set_option maxRecDepth 100000
variable {T:Type} {S:TM.Sys Tryz.prog T} {Z:View T}
attribute [local irreducible] CallsV YieldV rngX
set_option maxHeartbeats 1000000 in
theorem Tryz.checkMove_ok (h:TH) (t:Tbl) (ht:TabV Z h t) (i:Nat) (m:GMv) (hx:t.mvs[i]?=some m) :
  CallsV S 73 #[h.v,.int .i64 i] (λ v Z'=>v=.int .i64 (t.chkMv m ((t.mvs.take i).map mv3))/\Z'=Z) Z:=by
 refine CallsV.pure' (CallsV.of (args:=[_,_]) Tryz.k73 Tryz.mixed (by simp) ?_)
 have hel:=ht.eds.1
 have hel2:=ht.el
 have hml:=ht.mvs.1
 have hml2:=ht.ml
 have hlt:i<h.ml:=by have:=(List.getElem?_eq_some_iff.1 hx).1;omega
 obtain⟨ad,m',vs,hx',hma,hsp,rfl,-,hrd⟩:=ht.mvs.at hlt
 obtain rfl:m=m':=by rw [hx] at hx';exact Option.some.inj hx'
 repeat refine⟨rfl,?_⟩
 conv=>whnf
 intro b Z1 h_1 hb
 have hb:Blk Z1 b #[.slice h.ea h.el h.ec,.slice h.ma h.ml h.mc,.slice h.ka h.kl h.kc]:=hb
 refine⟨_,hb.sees3 (o:=1) rfl,?_⟩
 refine⟨ad,i,⟨hma,rfl,hlt⟩,?_⟩
 refine⟨[.int .i64 m.ed,.int .i64 m.fr,.int .i64 m.to],⟨rfl,hrd.lg h_1.lg⟩,?_⟩
 conv=>whnf
 intro b5 hf5
 refine⟨_,.refl _,?_⟩
 refine⟨rfl,st_new (vs:=[.int .i64 m.ed,.int .i64 m.fr,.int .i64 m.to]) hf5 rfl (by simp [Value.single]) λ Z2 h_2 hb_5=>?_⟩
 have hb_5:Blk Z2 b5 #[.int .i64 m.ed,.int .i64 m.fr,.int .i64 m.to]:=hb_5
 have hb_2:=hb.le h_2
 have hlg:=(h_1.trans h_2).lg
 refine⟨_,hb_5.sees3 (o:=0) rfl,?_⟩
 refine⟨_,hb_2.sees3 (o:=0) rfl,?_⟩
 refine⟨by unfold InR;omega,?_⟩
 refine⟨.bool (t.isEd m.ed && t.isEd (m.ed+1)),λ Z' hle _=>?_,?_⟩
 ·refine⟨Tryz.k71.any,(Tryz.in_ok _ _ _ _).mono ?_⟩
  rintro _ Z'' ⟨rfl,hZ⟩ -
  exact⟨by rw [<- Tbl.ed2,hel],_,.refl _,hZ ▸ .refl _⟩
 repeat refine⟨rfl,?_⟩
 conv=>whnf
 apply gb_split<;>intro hc
 ·have hee:t.isEd m.ed=true/\t.isEd (m.ed+1)=true:=by simpa using hc
  obtain⟨ke,ade,ia,il,ic,hke',hke,hea,hse,hit⟩:=Tbl.isEd_at ht hee.1
  obtain⟨kf,adf,ja,jl,jc,hkf',hkf,hea',hsf,hjt⟩:=Tbl.isEd_at ht hee.2
  have hil:=hit.1
  have hil2:=ht.items_lt m.ed
  have hjl:=hjt.1
  have hjl2:=ht.items_lt (m.ed+1)
  refine⟨_,hb_5.sees3 (o:=1) rfl,?_⟩
  refine⟨_,hb_2.sees3 (o:=0) rfl,?_⟩
  refine⟨_,hb_5.sees3 (o:=0) rfl,?_⟩
  refine⟨ade,ke,⟨hea,hke',hke⟩,?_⟩
  refine⟨_,hse.lg hlg,?_⟩
  refine⟨by unfold InR;omega,?_⟩
  refine⟨.bool (t.isItem m.ed m.fr),λ Z' hle _=>?_,?_⟩
  ·refine⟨Tryz.k71.any,(Tryz.in_ok _ _ _ _).mono ?_⟩
   rintro _ Z'' ⟨rfl,hZ⟩ -
   exact⟨by rw [<- Tbl.isItem_btw,hil],_,.refl _,hZ ▸ .refl _⟩
  repeat refine⟨rfl,?_⟩
  conv=>whnf
  apply gb_split<;>intro hc
  ·have hi1:t.isItem m.ed m.fr=true:=by simpa using hc
   refine⟨_,hb_5.sees3 (o:=2) rfl,?_⟩
   refine⟨_,hb_2.sees3 (o:=0) rfl,?_⟩
   refine⟨_,hb_5.sees3 (o:=0) rfl,?_⟩
   refine⟨by unfold InR;omega,?_⟩
   refine⟨adf,kf,⟨hea',hkf',hkf⟩,?_⟩
   refine⟨_,hsf.lg hlg,?_⟩
   refine⟨by unfold InR;omega,?_⟩
   conv=>whnf
   intro Z3 h_3 _
   have hlg3:=hlg.trans h_3.lg
   refine⟨Tryz.k71.any,(Tryz.in_ok _ _ _ _).go λ _=>?_⟩
   rw [show btw m.to 0 ((jl:Int)-1)=t.isItem (m.ed+1) m.to by rw [<- hjl];rfl]
   repeat refine⟨rfl,?_⟩
   conv=>whnf
   apply cb_split<;>intro hc
   ·have hi2:t.isItem (m.ed+1) m.to=false:=by simpa using hc
    repeat refine⟨rfl,?_⟩
    conv=>whnf
    exact⟨by unfold Tbl.chkMv Tbl.mvOk;rw [hee.1,hee.2,hi1,hi2];rfl,hlg3⟩
   have hi2:t.isItem (m.ed+1) m.to=true:=by simpa using hc
   have hok:t.mvOk m=true:=by unfold Tbl.mvOk;rw [hee.1,hee.2,hi1,hi2];rfl
   have hspec:t.chkMv m ((t.mvs.take i).map mv3)=if inS (mv3 m) ((t.mvs.take i).map mv3) then 5 else 0:=by unfold Tbl.chkMv;rw [if_pos hok];rfl
   rw [hspec]
   refine⟨Nat,λ k=>[(1,.int .i64 i),(2,.pointer (some ⟨b,0,none⟩)),(5,.pointer (some ⟨b5,0,none⟩)),(6,.int .i64 k)],λ k Z'=>Z3.le Z'/\k<=i/\inS (mv3 m) ((t.mvs.take k).map mv3)=false,λ k=>i-k,0,⟨rfl,rfl,rfl,rfl,trivial⟩,⟨.refl _,by omega,rfl⟩,?_⟩
   rintro k f Z4 ⟨h_4,hk,hno⟩
   have hb_4:=hb_2.le (h_3.trans h_4)
   have hb_5:=hb_5.le (h_3.trans h_4)
   have hlg4:=hlg3.trans h_4.lg
   repeat refine⟨rfl,?_⟩
   conv=>whnf
   apply cb_split<;>intro hc
   ·have hlk:k<i:=by simpa using hc
    obtain⟨_,m',vs,hxm,e,hsp',rfl,-,hrd'⟩:=ht.mvs.at (show k<h.ml by omega)
    rw [hma] at e
    cases e
    refine⟨_,hb_4.sees3 (o:=1) rfl,?_⟩
    refine⟨ad,k,⟨hma,rfl,by omega⟩,?_⟩
    refine⟨[.int .i64 m'.ed,.int .i64 m'.fr,.int .i64 m'.to],⟨rfl,hrd'.lg hlg4⟩,?_⟩
    refine⟨[.int .i64 m.ed,.int .i64 m.fr,.int .i64 m.to],⟨rfl,hb_5.reads (λ k v hv=>by simpa using hv)⟩,?_⟩
    conv=>whnf
    intro Z5 h_5 _
    refine raw_eqS Tryz.s132 (vs:=[.int .i64 m'.ed,.int .i64 m'.fr,.int .i64 m'.to]) (ws:=[.int .i64 m.ed,.int .i64 m.fr,.int .i64 m.to]) rfl rfl (by kernel_rfl) (by kernel_rfl) ?_
    have heq:eqvL [.int .i64 m'.ed,.int .i64 m'.fr,.int .i64 m'.to] [.int .i64 m.ed,.int .i64 m.fr,.int .i64 m.to]=decide (mv3 m=mv3 m'):=eqv3 ..
    rw [heq]
    repeat refine⟨rfl,?_⟩
    conv=>whnf
    apply cb_split<;>intro hc
    ·have he:mv3 m=mv3 m':=by simpa using hc
     have hs:inS (mv3 m) ((t.mvs.take i).map mv3)=true:=
      inS_mem.2 (List.mem_map.2 ⟨m',List.mem_of_getElem? (i:=k) (by rw [List.getElem?_take,if_pos hlk];exact hxm),he.symm⟩)
     repeat refine⟨rfl,?_⟩
     conv=>whnf
     exact⟨by rw [hs];rfl,hlg4.trans h_5.lg⟩
    ·have he:mv3 m≠mv3 m':=by simpa using hc
     refine⟨by unfold InR;omega,?_⟩
     refine⟨rfl,k+1,⟨rfl,rfl,rfl,rfl,trivial⟩,⟨h_4.trans h_5,by omega,?_⟩,by show _-_<_-_;omega⟩
     rw [take_at hxm,List.map_append,List.map_cons,List.map_nil,inS_snoc,hno,Bool.false_or]
     exact decide_eq_false he
   ·have hge:i<=k:=by simpa using hc
    obtain rfl:k=i:=by omega
    repeat refine⟨rfl,?_⟩
    conv=>whnf
    exact⟨by rw [hno];rfl,hlg4⟩
  ·have hi1:t.isItem m.ed m.fr=false:=by simpa using hc
   conv=>whnf
   intro Z3 h_3 _
   repeat refine⟨rfl,?_⟩
   conv=>whnf
   exact⟨by unfold Tbl.chkMv Tbl.mvOk;rw [hee.1,hee.2,hi1];rfl,hlg.trans h_3.lg⟩
 ·have hee:(t.isEd m.ed && t.isEd (m.ed+1))=false:=Bool.not_inj hc
  have hno:t.mvOk m=false:=by unfold Tbl.mvOk;rw [<- Bool.and_assoc,hee];rfl
  rw [hee]
  repeat refine⟨rfl,?_⟩
  conv=>whnf
  intro Z3 h_3 _
  repeat refine⟨rfl,?_⟩
  conv=>whnf
  exact⟨by unfold Tbl.chkMv;rw [hno];rfl,hlg.trans h_3.lg⟩
set_option maxHeartbeats 1000000 in
theorem Tryz.refKin_ok (h:TH) (t:Tbl) (ht:TabV Z h t) (i:Nat) (m:GKn) (hx:t.kns[i]?=some m) :
  CallsV S 74 #[h.v,.int .i64 i] (λ v Z'=>v=.int .i64 (t.chkKn m ((t.kns.take i).map kn3))/\Z'=Z) Z:=by
 refine CallsV.pure' (CallsV.of (args:=[_,_]) Tryz.k74 Tryz.mixed (by simp) ?_)
 have hel:=ht.eds.1
 have hel2:=ht.el
 have hml:=ht.kns.1
 have hml2:=ht.kl
 have hlt:i<h.kl:=by have:=(List.getElem?_eq_some_iff.1 hx).1;omega
 obtain⟨ad,m',vs,hx',hma,hsp,rfl,-,hrd⟩:=ht.kns.at hlt
 obtain rfl:m=m':=by rw [hx] at hx';exact Option.some.inj hx'
 repeat refine⟨rfl,?_⟩
 conv=>whnf
 intro b Z1 h_1 hb
 have hb:Blk Z1 b #[.slice h.ea h.el h.ec,.slice h.ma h.ml h.mc,.slice h.ka h.kl h.kc]:=hb
 refine⟨_,hb.sees3 (o:=2) rfl,?_⟩
 refine⟨ad,i,⟨hma,rfl,hlt⟩,?_⟩
 refine⟨[.int .i64 m.ed,.int .i64 m.one,.int .i64 m.two,.int .i64 m.lev],⟨rfl,hrd.lg h_1.lg⟩,?_⟩
 conv=>whnf
 intro b5 hf5
 refine⟨_,.refl _,?_⟩
 refine⟨rfl,st_new (vs:=[.int .i64 m.ed,.int .i64 m.one,.int .i64 m.two,.int .i64 m.lev]) hf5 rfl (by simp [Value.single]) λ Z2 h_2 hb_5=>?_⟩
 have hb_5:Blk Z2 b5 #[.int .i64 m.ed,.int .i64 m.one,.int .i64 m.two,.int .i64 m.lev]:=hb_5
 have hb_2:=hb.le h_2
 have hlg:=(h_1.trans h_2).lg
 refine⟨_,hb_5.sees3 (o:=0) rfl,?_⟩
 refine⟨_,hb_2.sees3 (o:=0) rfl,?_⟩
 refine⟨by unfold InR;omega,?_⟩
 refine⟨.bool (t.isEd m.ed),λ Z' hle _=>?_,?_⟩
 ·refine⟨Tryz.k71.any,(Tryz.in_ok _ _ _ _).mono ?_⟩
  rintro _ Z'' ⟨rfl,hZ⟩ -
  exact⟨by unfold Tbl.isEd;rw [hel],_,.refl _,hZ ▸ .refl _⟩
 repeat refine⟨rfl,?_⟩
 conv=>whnf
 apply gb_split<;>intro hc
 ·have hee:t.isEd m.ed=true:=by simpa using hc
  obtain⟨ke,ade,ia,il,ic,hke',hke,hea,hse,hit⟩:=Tbl.isEd_at ht hee
  have hil:=hit.1
  have hil2:=ht.items_lt m.ed
  refine⟨_,hb_5.sees3 (o:=1) rfl,?_⟩
  refine⟨_,hb_2.sees3 (o:=0) rfl,?_⟩
  refine⟨_,hb_5.sees3 (o:=0) rfl,?_⟩
  refine⟨ade,ke,⟨hea,hke',hke⟩,?_⟩
  refine⟨_,hse.lg hlg,?_⟩
  refine⟨by unfold InR;omega,?_⟩
  refine⟨.bool (t.isItem m.ed m.one),λ Z' hle _=>?_,?_⟩
  ·refine⟨Tryz.k71.any,(Tryz.in_ok _ _ _ _).mono ?_⟩
   rintro _ Z'' ⟨rfl,hZ⟩ -
   exact⟨by rw [<- Tbl.isItem_btw,hil],_,.refl _,hZ ▸ .refl _⟩
  repeat refine⟨rfl,?_⟩
  conv=>whnf
  apply gb_split<;>intro hc
  ·have hi1:t.isItem m.ed m.one=true:=by simpa using hc
   refine⟨_,hb_5.sees3 (o:=2) rfl,?_⟩
   refine⟨_,hb_2.sees3 (o:=0) rfl,?_⟩
   refine⟨_,hb_5.sees3 (o:=0) rfl,?_⟩
   refine⟨ade,ke,⟨hea,hke',hke⟩,?_⟩
   refine⟨_,hse.lg hlg,?_⟩
   refine⟨by unfold InR;omega,?_⟩
   conv=>whnf
   intro Z3 h_3 _
   have hlg3:=hlg.trans h_3.lg
   refine⟨Tryz.k71.any,(Tryz.in_ok _ _ _ _).go λ _=>?_⟩
   rw [show btw m.two 0 ((il:Int)-1)=t.isItem m.ed m.two by rw [<- hil];rfl]
   repeat refine⟨rfl,?_⟩
   conv=>whnf
   apply cb_split<;>intro hc
   ·have hi2:t.isItem m.ed m.two=false:=by simpa using hc
    repeat refine⟨rfl,?_⟩
    conv=>whnf
    exact⟨by unfold Tbl.chkKn Tbl.knOk;rw [hee,hi1,hi2];rfl,hlg3⟩
   have hi2:t.isItem m.ed m.two=true:=by simpa using hc
   have hok:t.knOk m=true:=by unfold Tbl.knOk;rw [hee,hi1,hi2];rfl
   have hb_3:=hb_2.le h_3
   have hb_5:=hb_5.le h_3
   refine⟨_,hb_5.sees3 (o:=1) rfl,?_⟩
   refine⟨_,hb_5.sees3 (o:=2) rfl,?_⟩
   repeat refine⟨rfl,?_⟩
   conv=>whnf
   apply cb_split<;>intro hc
   ·have hi3:¬m.one<m.two:=by simpa using hc
    repeat refine⟨rfl,?_⟩
    conv=>whnf
    exact⟨by unfold Tbl.chkKn;rw [if_pos hok,if_neg hi3],hlg3⟩
   have hi3:m.one<m.two:=by simpa using hc
   refine⟨_,hb_5.sees3 (o:=3) rfl,?_⟩
   refine⟨Tryz.k71.any,(Tryz.in_ok _ _ _ _).go λ _=>?_⟩
   repeat refine⟨rfl,?_⟩
   conv=>whnf
   apply cb_split<;>intro hc
   ·have hi4:btw m.lev 1 5=false:=by simpa using hc
    repeat refine⟨rfl,?_⟩
    conv=>whnf
    exact⟨by unfold Tbl.chkKn;rw [if_pos hok,if_pos hi3,hi4];rfl,hlg3⟩
   have hi4:btw m.lev 1 5=true:=by simpa using hc
   have hspec:t.chkKn m ((t.kns.take i).map kn3)=if inS (kn3 m) ((t.kns.take i).map kn3) then 5 else 0:=by unfold Tbl.chkKn;rw [if_pos hok,if_pos hi3,if_pos hi4];rfl
   rw [hspec]
   refine⟨Nat,λ k=>[(1,.int .i64 i),(2,.pointer (some ⟨b,0,none⟩)),(5,.pointer (some ⟨b5,0,none⟩)),(6,.int .i64 k)],λ k Z'=>Z3.le Z'/\k<=i/\inS (kn3 m) ((t.kns.take k).map kn3)=false,λ k=>i-k,0,⟨rfl,rfl,rfl,rfl,trivial⟩,⟨.refl _,by omega,rfl⟩,?_⟩
   rintro k f Z4 ⟨h_4,hk,hno⟩
   have hb_4:=hb_3.le h_4
   have hb_5:=hb_5.le h_4
   have hlg4:=hlg3.trans h_4.lg
   repeat refine⟨rfl,?_⟩
   conv=>whnf
   apply cb_split<;>intro hc
   ·have hlk:k<i:=by simpa using hc
    obtain⟨_,m',vs,hxm,e,hsp',rfl,-,hrd'⟩:=ht.kns.at (show k<h.kl by omega)
    rw [hma] at e
    cases e
    have hk1:InR (k+1):=by unfold InR;omega
    have next:∀Z':View T,Z4.le Z'->kn3 m≠kn3 m'->Z3.le Z'/\k+1<=i/\inS (kn3 m) ((t.kns.take (k+1)).map kn3)=false:=λ Z' hle he=>⟨h_4.trans hle,by omega,by
     rw [take_at hxm,List.map_append,List.map_cons,List.map_nil,inS_snoc,hno,Bool.false_or]
     exact decide_eq_false he⟩
    refine⟨_,hb_4.sees3 (o:=2) rfl,?_⟩
    refine⟨ad,k,⟨hma,rfl,by omega⟩,?_⟩
    refine⟨_,(hrd' 0 _ rfl).lg hlg4,?_⟩
    refine⟨_,hb_5.sees3 (o:=0) rfl,?_⟩
    repeat refine⟨rfl,?_⟩
    conv=>whnf
    apply gb_split<;>intro hc
    ·have e1:m'.ed=m.ed:=by simpa using hc
     refine⟨_,hb_4.sees3 (o:=2) rfl,?_⟩
     refine⟨ad,k,⟨hma,rfl,by omega⟩,?_⟩
     refine⟨_,(hrd' 1 _ rfl).lg hlg4,?_⟩
     refine⟨_,hb_5.sees3 (o:=1) rfl,?_⟩
     repeat refine⟨rfl,?_⟩
     conv=>whnf
     apply gb_split<;>intro hc
     ·have e2:m'.one=m.one:=by simpa using hc
      refine⟨_,hb_4.sees3 (o:=2) rfl,?_⟩
      refine⟨ad,k,⟨hma,rfl,by omega⟩,?_⟩
      refine⟨_,(hrd' 2 _ rfl).lg hlg4,?_⟩
      refine⟨_,hb_5.sees3 (o:=2) rfl,?_⟩
      conv=>whnf
      intro Z5 h_5 _
      repeat refine⟨rfl,?_⟩
      conv=>whnf
      apply cb_split<;>intro hc
      ·have e3:m'.two=m.two:=by simpa using hc
       have hs:inS (kn3 m) ((t.kns.take i).map kn3)=true:=
        inS_mem.2 (List.mem_map.2 ⟨m',List.mem_of_getElem? (i:=k) (by rw [List.getElem?_take,if_pos hlk];exact hxm),by unfold kn3;rw [e1,e2,e3]⟩)
       repeat refine⟨rfl,?_⟩
       conv=>whnf
       exact⟨by rw [hs];rfl,hlg4.trans h_5.lg⟩
      ·have e3:m'.two≠m.two:=by simpa using hc
       refine⟨hk1,?_⟩
       conv=>whnf
       exact⟨rfl,k+1,⟨rfl,rfl,rfl,rfl,trivial⟩,next _ h_5 (λ e=>e3 (by unfold kn3 at e;simp only [Prod.mk.injEq] at e;exact e.2.2.symm)),by show _-_<_-_;omega⟩
     ·have e2:m'.one≠m.one:=by simpa using hc
      conv=>whnf
      intro Z5 h_5 _
      repeat refine⟨rfl,?_⟩
      refine⟨hk1,?_⟩
      conv=>whnf
      exact⟨rfl,k+1,⟨rfl,rfl,rfl,rfl,trivial⟩,next _ h_5 (λ e=>e2 (by unfold kn3 at e;simp only [Prod.mk.injEq] at e;exact e.2.1.symm)),by show _-_<_-_;omega⟩
    ·have e1:m'.ed≠m.ed:=by simpa using hc
     conv=>whnf
     intro Z5 h_5 _
     repeat refine⟨rfl,?_⟩
     refine⟨hk1,?_⟩
     conv=>whnf
     exact⟨rfl,k+1,⟨rfl,rfl,rfl,rfl,trivial⟩,next _ h_5 (λ e=>e1 (by unfold kn3 at e;simp only [Prod.mk.injEq] at e;exact e.1.symm)),by show _-_<_-_;omega⟩
   ·have hge:i<=k:=by simpa using hc
    obtain rfl:k=i:=by omega
    repeat refine⟨rfl,?_⟩
    conv=>whnf
    exact⟨by rw [hno];rfl,hlg4⟩
  ·have hi1:t.isItem m.ed m.one=false:=by simpa using hc
   conv=>whnf
   intro Z3 h_3 _
   repeat refine⟨rfl,?_⟩
   conv=>whnf
   exact⟨by unfold Tbl.chkKn Tbl.knOk;rw [hee,hi1];rfl,hlg.trans h_3.lg⟩
 ·have hee:t.isEd m.ed=false:=by simpa using hc
  have hno:t.knOk m=false:=by unfold Tbl.knOk;rw [hee];rfl
  repeat refine⟨rfl,?_⟩
  conv=>whnf
  intro Z3 h_3 _
  repeat refine⟨rfl,?_⟩
  conv=>whnf
  exact⟨by unfold Tbl.chkKn;rw [hno];rfl,hlg.trans h_3.lg⟩
end Go.Proofs
namespace Go.TM
theorem Tbl.edsF_at {l:List (List GItem)} {i:Nat} {x:List GItem} (h:l[i]?=some x):edsF (l.drop i)=if edF x=0 then edsF (l.drop (i+1)) else edF x:=by rw [drop_at h,edsF]
end Go.TM
namespace Go.Proofs
open Go.TM
set_option maxRecDepth 100000
variable {T:Type} {S:TM.Sys Tryz.prog T} {Z:View T}
attribute [local irreducible] CallsV YieldV rngX
set_option maxHeartbeats 1000000 in
theorem Tryz.refTable_ok (h:TH) (t:Tbl) (ht:TabV Z h t):CallsV S 30 #[h.v] (λ v Z'=>v=.int .i64 t.flaw/\Z'=Z) Z:=by
 refine CallsV.pure' (CallsV.of (args:=[_]) Tryz.k30 Tryz.mixed (by simp) ?_)
 have hel:=ht.eds.1
 have hel2:=ht.el
 have hml:=ht.mvs.1
 have hml2:=ht.ml
 have hkl:=ht.kns.1
 have hkl2:=ht.kl
 unfold Tbl.flaw
 rw [Tbl.chkItems_eq]
 repeat refine⟨rfl,?_⟩
 conv=>whnf
 intro b Z1 h_1 hb
 have hb:Blk Z1 b #[.slice h.ea h.el h.ec,.slice h.ma h.ml h.mc,.slice h.ka h.kl h.kc]:=hb
 refine⟨_,hb.sees3 (o:=0) rfl,?_⟩
 refine⟨Tryz.k71.any,(Tryz.in_ok _ _ _ _).go λ _=>?_⟩
 rw [hel]
 repeat refine⟨rfl,?_⟩
 conv=>whnf
 apply cb_split<;>intro hc
 ·have h1:btw h.el 1 3=false:=by simpa using hc
  rw [h1]
  repeat refine⟨rfl,?_⟩
  conv=>whnf
  exact h_1.lg
 have h1:btw h.el 1 3=true:=by simpa using hc
 rw [if_pos h1]
 refine⟨Nat,λ i=>[(1,.pointer (some ⟨b,0,none⟩)),(3,.int .i64 i)],λ i Z'=>Z1.le Z'/\i<=h.el/\edsF t.eds=edsF (t.eds.drop i),λ i=>h.el-i,0,⟨rfl,rfl,trivial⟩,⟨.refl _,by omega,rfl⟩,?_⟩
 rintro i f Z2 ⟨h_2,hi,hinv⟩
 have hb_2:=hb.le h_2
 have hlg2:=(h_1.trans h_2).lg
 refine⟨_,hb_2.sees3 (o:=0) rfl,?_⟩
 repeat refine⟨rfl,?_⟩
 conv=>whnf
 apply cb_split<;>intro hc
 ·have hlt:i<h.el:=by simpa using hc
  obtain⟨ad,x,vs,hx,hea,hsp,⟨v,rfl,a,len,cap,rfl,hr⟩,-,hrd⟩:=ht.eds.at hlt
  rw [Tbl.edsF_at hx] at hinv
  refine⟨_,hb_2.sees3 (o:=0) rfl,?_⟩
  refine⟨ad,i,⟨hea,rfl,hlt⟩,?_⟩
  refine⟨[.slice a len cap],⟨rfl,hrd.lg hlg2⟩,?_⟩
  refine⟨Tryz.k72.any,(Tryz.checkEdition_ok a len cap x (hr.lg hlg2 λ _ _ h=>h) (by rw [<- hr.1];exact ht.il x (List.mem_of_getElem? hx)) (ht.nl x (List.mem_of_getElem? hx))).go λ _=>?_⟩
  repeat refine⟨rfl,?_⟩
  conv=>whnf
  apply cb_split<;>intro hc
  ·have h2:edF x≠0:=by simpa using hc
   rw [if_neg h2] at hinv
   repeat refine⟨rfl,?_⟩
   conv=>whnf
   exact⟨by rw [hinv,if_neg h2],hlg2⟩
  ·have h2:edF x=0:=by simpa using hc
   rw [if_pos h2] at hinv
   refine⟨by unfold InR;omega,?_⟩
   conv=>whnf
   exact⟨rfl,i+1,⟨rfl,rfl,trivial⟩,⟨h_2,by omega,hinv⟩,by show _-_<_-_;omega⟩
 have hge:h.el<=i:=by simpa using hc
 have e0:edsF t.eds=0:=by rw [hinv,List.drop_eq_nil_of_le (by omega)];rfl
 rw [if_pos e0]
 unfold Tbl.chkMoves Tbl.chkKins
 refine⟨_,hb_2.sees3 (o:=1) rfl,?_⟩
 repeat refine⟨rfl,?_⟩
 conv=>whnf
 apply cb_split<;>intro hc
 ·have h2:16<t.mvs.length:=by rw [hml];simp at hc;omega
  rw [if_pos h2]
  repeat refine⟨rfl,?_⟩
  conv=>whnf
  exact hlg2
 have h2:¬16<t.mvs.length:=by rw [hml];simp at hc;omega
 rw [if_neg h2]
 refine⟨Nat,λ i=>[(1,.pointer (some ⟨b,0,none⟩)),(5,.int .i64 i)],λ i Z'=>Z2.le Z'/\i<=h.ml/\t.chkMvs t.mvs []=t.chkMvs (t.mvs.drop i) ((t.mvs.take i).map mv3),λ i=>h.ml-i,0,⟨rfl,rfl,trivial⟩,⟨.refl _,by omega,rfl⟩,?_⟩
 rintro j f Z3 ⟨h_3,hj,hinvm⟩
 have hb_3:=hb_2.le h_3
 have hlg3:=hlg2.trans h_3.lg
 refine⟨_,hb_3.sees3 (o:=1) rfl,?_⟩
 repeat refine⟨rfl,?_⟩
 conv=>whnf
 apply cb_split<;>intro hc
 ·have hlt:j<h.ml:=by simpa using hc
  obtain⟨ad,x,vs,hx,hma,hsp,rfl,-,hrd⟩:=ht.mvs.at hlt
  rw [drop_at hx,Tbl.chkMvs] at hinvm
  refine⟨_,⟨rfl,hb_3.rdT λ _ _ h=>h⟩,?_⟩
  refine⟨Tryz.k73.any,(Tryz.checkMove_ok h t (ht.lg hlg3) j x hx).go λ _=>?_⟩
  repeat refine⟨rfl,?_⟩
  conv=>whnf
  apply cb_split<;>intro hc
  ·have h3:t.chkMv x ((t.mvs.take j).map mv3)≠0:=by simpa using hc
   rw [if_neg h3] at hinvm
   repeat refine⟨rfl,?_⟩
   conv=>whnf
   exact⟨by rw [hinvm,if_neg h3],hlg3⟩
  ·have h3:t.chkMv x ((t.mvs.take j).map mv3)=0:=by simpa using hc
   rw [if_pos h3] at hinvm
   refine⟨by unfold InR;omega,?_⟩
   conv=>whnf
   exact⟨rfl,j+1,⟨rfl,rfl,trivial⟩,⟨h_3,by omega,by rw [hinvm,take_at hx,List.map_append];rfl⟩,by show _-_<_-_;omega⟩
 have hge:h.ml<=j:=by simpa using hc
 have e1:t.chkMvs t.mvs []=0:=by rw [hinvm,List.drop_eq_nil_of_le (by omega)];rfl
 rw [if_pos e1]
 refine⟨_,hb_3.sees3 (o:=2) rfl,?_⟩
 repeat refine⟨rfl,?_⟩
 conv=>whnf
 apply cb_split<;>intro hc
 ·have h3:10<t.kns.length:=by rw [hkl];simp at hc;omega
  rw [if_pos h3]
  repeat refine⟨rfl,?_⟩
  conv=>whnf
  exact hlg3
 have h3:¬10<t.kns.length:=by rw [hkl];simp at hc;omega
 rw [if_neg h3]
 refine⟨Nat,λ i=>[(1,.pointer (some ⟨b,0,none⟩)),(7,.int .i64 i)],λ i Z'=>Z3.le Z'/\i<=h.kl/\t.chkKns t.kns []=t.chkKns (t.kns.drop i) ((t.kns.take i).map kn3),λ i=>h.kl-i,0,⟨rfl,rfl,trivial⟩,⟨.refl _,by omega,rfl⟩,?_⟩
 rintro k f Z4 ⟨h_4,hk,hinvk⟩
 have hb_4:=hb_3.le h_4
 have hlg4:=hlg3.trans h_4.lg
 refine⟨_,hb_4.sees3 (o:=2) rfl,?_⟩
 repeat refine⟨rfl,?_⟩
 conv=>whnf
 apply cb_split<;>intro hc
 ·have hlt:k<h.kl:=by simpa using hc
  obtain⟨ad,x,vs,hx,hma,hsp,rfl,-,hrd⟩:=ht.kns.at hlt
  rw [drop_at hx,Tbl.chkKns] at hinvk
  refine⟨_,⟨rfl,hb_4.rdT λ _ _ h=>h⟩,?_⟩
  refine⟨Tryz.k74.any,(Tryz.refKin_ok h t (ht.lg hlg4) k x hx).go λ _=>?_⟩
  repeat refine⟨rfl,?_⟩
  conv=>whnf
  apply cb_split<;>intro hc
  ·have h4:t.chkKn x ((t.kns.take k).map kn3)≠0:=by simpa using hc
   rw [if_neg h4] at hinvk
   repeat refine⟨rfl,?_⟩
   conv=>whnf
   exact⟨by rw [hinvk],hlg4⟩
  ·have h4:t.chkKn x ((t.kns.take k).map kn3)=0:=by simpa using hc
   rw [if_pos h4] at hinvk
   refine⟨by unfold InR;omega,?_⟩
   conv=>whnf
   exact⟨rfl,k+1,⟨rfl,rfl,trivial⟩,⟨h_4,by omega,by rw [hinvk,take_at hx,List.map_append];rfl⟩,by show _-_<_-_;omega⟩
 have hge:h.kl<=k:=by simpa using hc
 have e2:t.chkKns t.kns []=0:=by rw [hinvk,List.drop_eq_nil_of_le (by omega)];rfl
 rw [e2]
 repeat refine⟨rfl,?_⟩
 conv=>whnf
 exact hlg4
theorem Tryz.big_ok (h:TH) (t:Tbl) (ht:TabV Z h t):CallsV S 24 #[h.v] (λ v Z'=>(∃B:Bool,v=.bool B)/\Z'=Z) Z:=by
 refine CallsV.pure' (CallsV.of (args:=[_]) Tryz.k24 Tryz.mixed (by simp) ?_)
 have hel:=ht.eds.1
 have hel2:=ht.el
 repeat refine⟨rfl,?_⟩
 conv=>whnf
 intro b Z1 h_1 hb
 have hb:Blk Z1 b #[.slice h.ea h.el h.ec,.slice h.ma h.ml h.mc,.slice h.ka h.kl h.kc]:=hb
 have htrue:∃B:Bool,Value.bool true=.bool B:=⟨true,rfl⟩
 have loop:h.el<2 ^ 60:=by omega
 refine⟨_,hb.sees3 (o:=0) rfl,?_⟩
 repeat refine⟨rfl,?_⟩
 conv=>whnf
 apply gb_split<;>intro hc
 ·refine⟨_,hb.sees3 (o:=1) rfl,?_⟩
  repeat refine⟨rfl,?_⟩
  conv=>whnf
  apply gb_split<;>intro hc
  ·refine⟨_,hb.sees3 (o:=2) rfl,?_⟩
   repeat refine⟨rfl,?_⟩
   conv=>whnf
   apply cb_split<;>intro hc
   ·conv=>whnf
    exact⟨htrue,h_1.lg⟩
   refine⟨Nat,λ i=>[(1,.pointer (some ⟨b,0,none⟩)),(3,.int .i64 i)],λ i Z'=>Z'=Z1/\i<=h.el,λ i=>h.el-i,0,⟨rfl,rfl,trivial⟩,⟨rfl,by omega⟩,?_⟩
   rintro i f Z' ⟨hZ',hi⟩
   obtain rfl:=hZ'.symm
   refine⟨_,hb.sees3 (o:=0) rfl,?_⟩
   repeat refine⟨rfl,?_⟩
   conv=>whnf
   apply cb_split<;>intro hc
   ·have hlt:i<h.el:=by simpa using hc
    obtain⟨ad,x,vs,hx,hea,hsp,⟨v,rfl,a,len,cap,rfl,hr⟩,-,hrd⟩:=ht.eds.at hlt
    have hxl:=ht.il x (List.mem_of_getElem? hx)
    have hrl:=hr.1
    refine⟨_,hb.sees3 (o:=0) rfl,?_⟩
    refine⟨ad,i,⟨hea,rfl,hlt⟩,?_⟩
    refine⟨_,(hrd 0 _ rfl).lg h_1.lg,?_⟩
    repeat refine⟨rfl,?_⟩
    conv=>whnf
    apply cb_split<;>intro hc
    ·conv=>whnf
     exact⟨htrue,h_1.lg⟩
    refine⟨Nat,λ k=>[(1,.pointer (some ⟨b,0,none⟩)),(3,.int .i64 i),(4,.int .i64 k)],λ k Z'=>Z'=Z1/\k<=len,λ k=>len-k,0,⟨rfl,rfl,rfl,trivial⟩,⟨rfl,by omega⟩,?_⟩
    rintro k f Z' ⟨hZ',hk⟩
    obtain rfl:=hZ'.symm
    refine⟨_,hb.sees3 (o:=0) rfl,?_⟩
    refine⟨ad,i,⟨hea,rfl,hlt⟩,?_⟩
    refine⟨_,(hrd 0 _ rfl).lg h_1.lg,?_⟩
    repeat refine⟨rfl,?_⟩
    conv=>whnf
    apply cb_split<;>intro hc
    ·have hkt:k<len:=by simpa using hc
     obtain⟨ad',it,vs,hx',rfl,hsp',rfl,-,hrd'⟩:=hr.at hkt
     refine⟨_,hb.sees3 (o:=0) rfl,?_⟩
     refine⟨ad,i,⟨hea,rfl,hlt⟩,?_⟩
     refine⟨_,(hrd 0 _ rfl).lg h_1.lg,?_⟩
     refine⟨ad',k,⟨rfl,rfl,hkt⟩,?_⟩
     refine⟨_,(hrd' 0 _ rfl).lg h_1.lg,?_⟩
     repeat refine⟨rfl,?_⟩
     conv=>whnf
     apply cb_split<;>intro hc
     ·conv=>whnf
      exact⟨htrue,h_1.lg⟩
     ·refine⟨by unfold InR;omega,?_⟩
      conv=>whnf
      exact⟨rfl,k+1,⟨rfl,rfl,rfl,trivial⟩,⟨rfl,by omega⟩,by show _-_<_-_;omega⟩
    ·refine⟨by unfold InR;omega,?_⟩
     conv=>whnf
     exact⟨rfl,i+1,⟨rfl,rfl,trivial⟩,⟨rfl,by omega⟩,by show _-_<_-_;omega⟩
   ·conv=>whnf
    exact⟨⟨false,rfl⟩,h_1.lg⟩
  ·have hc:decide ((h.ml:Int) > 20)=true:=hc
   rw [hc]
   repeat refine⟨rfl,?_⟩
   conv=>whnf
   exact⟨htrue,h_1.lg⟩
 ·have hc:decide ((h.el:Int) > 20)=true:=hc
  rw [hc]
  repeat refine⟨rfl,?_⟩
  conv=>whnf
  exact⟨htrue,h_1.lg⟩
end Go.Proofs
