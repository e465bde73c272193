/- Trimmed by a program of this session (trim.py). Not trusted: Lean checks it. -/
import Derived.Test.YtbhllgifciaepaaTLPlacesPFnPlacesx0
import Derived.Test.YtbhllgifciaepaaTLPlacesPFnPlacesx7
import Derived.Test.YtbhllgifciaepaaTLPlacesPFnPlacesx11
namespace Go.Proofs.Ytbhllgifciaepaa.PFnPlaces
open Go.RowKit Go.Proofs.YtbhllgifciaepaaW.PrintWords Go.Proofs.YtbhllgifciaepaaW.PrintLast Go.Proofs.YtbhllgifciaepaaW.PrintMore
attribute [local go_sem] max2_int min2_int max_two min_two max_three min_three max_four min_four
set_option linter.unusedVariables false
set_option linter.unusedSimpArgs false
def spec_l1Once.f (s0_0:List Int) (s0_1:Int) (s0_2:Int) (a1:Int):Option (Bool × Int × Int):=(spec_l1Below.f s0_0 s0_1 s0_2 a1).bind fun bt419=>(some ((bt419.1 == 0),bt419.2.1,bt419.2.2))
set_option maxHeartbeats 8000000 in
set_option maxRecDepth 100000 in
theorem spec_l1Once.calls (g:Nat) (s0_0:List Int) (s0_1:Int) (s0_2:Int) (a1:Int) (r1:Bool) (r2:Int) (r3:Int) (w0 w:World) (hI:IsS142 w0 w g s0_0 s0_1 s0_2) (hB:Below w0.heap.size w0 w) (h:spec_l1Once.f s0_0 s0_1 s0_2 a1=some (r1,r2,r3)) :
  Calls Try.prog 115 #[.pointer (some ⟨g,0,none⟩),.int .i64 a1] w fun e w'=>e = .returned (.bool r1)∧IsS142 w0 w' g s0_0 r2 r3∧Below w0.heap.size w0 w' ∧ KeepBut w w' g none:=by
 have HI0:=Aside0.mk hI
 have HK:=Aside0.mk (KeepBut.refl w g none)
 have HL:=Aside0.mk hB.size
 clear hI
 have HW0:=Aside0.mk hB.size
 have HB:=Aside0.mk hB
 clear hB
 have H:((spec_l1Below.f s0_0 s0_1 s0_2 a1).bind fun bt419=>(some ((bt419.1 == 0),bt419.2.1,bt419.2.2)))=some (r1,r2,r3):=h
 clear h
 replace H:=Option.bind_eq_some_iff.mp H
 obtain ⟨⟨t419,t420,t421⟩,A30,H⟩:=H
 replace H:(some ((t419 == 0),t420,t421))=some (r1,r2,r3):=H
 have A3:=Aside0.mk A30
 clear A30
 simp only [Option.some.injEq,Prod.mk.injEq] at H
 obtain ⟨rfl,rfl,rfl⟩:=H
 go_enter Try.func115,Try.ntmps115
 go_wp2_with (first|((with_reducible refine gate_callee (f:=105) rfl ?_);refine goesL_ (some 7) rfl rfl Try.func105 (by kernel_rfl) rfl #[.pointer (some ⟨g,0,none⟩),.int .i64 a1] rfl (by (try simp only [List.map_toArray,List.map_cons,List.map_nil]);first|done|rfl|(simp only [List.length_drop,List.length_take];rfl)) ?_;(with_reducible refine (spec_l1Below.calls g s0_0 s0_1 s0_2 a1 t419 t420 t421 w0 _ ?side1 ?side2 A3.out).mono ?_);(case side1=>repeat (first|(with_reducible first|exact HI0.out|apply IsS142.alloc|apply IsS142.drewN|apply IsS142.drew|apply IsS142.set_1|apply IsS142.set_2)|exact HI0.out));(case side2=>repeat (first|(with_reducible first|exact HB.out|apply below_alloc|apply pw_below_drewN|apply below_drew1|refine below_set ?_ (IsS142.ge HI0.out))|exact HB.out));rintro e w4 ⟨rfl,hi,hb,hk⟩;refine ⟨_,rfl,?_⟩;have n0_:=Aside0.mk (KeepBut.trans (by repeat (first|(with_reducible first|exact HK.out|apply KeepBut.set_|apply keep_drewN|apply keep_drew|apply keep_alloc)|exact HK.out)) hk (.inl rfl));have n1_:=Aside0.mk (hb);have n2_:=Aside0.mk (hi);clear HK;clear HB;clear HI0;have HK:=n0_;have HB:=n1_;have HI0:=n2_;clear n0_ n1_ n2_;(try clear hb);(try clear hb2);(try clear hk);(try clear hi)))
 go_ret
 exact ⟨by first|rfl|(simp [errW_none,errW_some] <;> rfl)|(simp [*,errW_none,errW_some] <;> rfl),by repeat (first|(with_reducible first|exact HI0.out|apply IsS142.alloc|apply IsS142.drewN|apply IsS142.drew|apply IsS142.set_1|apply IsS142.set_2)|exact HI0.out),by repeat (first|(with_reducible first|exact HB.out|apply below_alloc|apply pw_below_drewN|apply below_drew1|refine below_set ?_ (IsS142.ge HI0.out))|exact HB.out),by repeat (first|(with_reducible first|exact HK.out|apply KeepBut.set_|apply keep_drewN|apply keep_drew|apply keep_alloc)|exact HK.out)⟩
def spec_l1Str.f (s0_0:List Int) (s0_1:Int) (s0_2:Int) (l1:List ByteArray):Option (ByteArray × Int × Int):=(spec_l1Below.f s0_0 s0_1 s0_2 (l1.length:Int)).bind fun bt422=>(if 0≤bt422.1 then (if bt422.1 < (l1.length:Int) then (some (rdOf ByteArray.empty l1 bt422.1,bt422.2.1,bt422.2.2)) else (none)) else (none))
set_option maxHeartbeats 8000000 in
set_option maxRecDepth 100000 in
theorem spec_l1Str.calls (g:Nat) (s0_0:List Int) (s0_1:Int) (s0_2:Int) (A1:Option Addr) (c1:Nat) (l1:List ByteArray) (r1:ByteArray) (r2:Int) (r3:Int) (w0 w:World) (hI:IsS142 w0 w g s0_0 s0_1 s0_2) (hB:Below w0.heap.size w0 w) (hr1:Kd.C Kd.string w A1 l1.length l1) (hc1:l1.length≤c1) (hf1 : ∀ ad,A1=some ad→0 < l1.length→ad.block ≠ g) (h:spec_l1Str.f s0_0 s0_1 s0_2 l1=some (r1,r2,r3)) :
  Calls Try.prog 129 #[.pointer (some ⟨g,0,none⟩),.slice A1 l1.length c1] w fun e w'=>e = .returned (.string r1)∧IsS142 w0 w' g s0_0 r2 r3∧Below w0.heap.size w0 w' ∧ KeepBut w w' g none:=by
 have HR1:=Aside0.mk hr1
 have HC1:=Aside0.mk hc1
 clear hr1 hc1
 have HI0:=Aside0.mk hI
 have HK:=Aside0.mk (KeepBut.refl w g none)
 have HL:=Aside0.mk hB.size
 clear hI
 have HW0:=Aside0.mk hB.size
 have HB:=Aside0.mk hB
 clear hB
 have H:((spec_l1Below.f s0_0 s0_1 s0_2 (l1.length:Int)).bind fun bt422=>(if 0≤bt422.1 then (if bt422.1 < (l1.length:Int) then (some (rdOf ByteArray.empty l1 bt422.1,bt422.2.1,bt422.2.2)) else (none)) else (none)))=some (r1,r2,r3):=h
 clear h
 replace H:=Option.bind_eq_some_iff.mp H
 obtain ⟨⟨t422,t423,t424⟩,A30,H⟩:=H
 replace H:(if 0≤t422 then (if t422 < (l1.length:Int) then (some (rdOf ByteArray.empty l1 t422,t423,t424)) else (none)) else (none))=some (r1,r2,r3):=H
 have A3:=Aside0.mk A30
 clear A30
 by_cases c4:0≤t422
 ·rw [if_pos c4] at H
  have c4b0:decide (0≤t422)=true:=decide_eq_true c4
  clear c4
  by_cases c5:t422 < (l1.length:Int)
  ·rw [if_pos c5] at H
   have c5b0:decide (t422 < (l1.length:Int))=true:=decide_eq_true c5
   clear c5
   simp only [Option.some.injEq,Prod.mk.injEq] at H
   obtain ⟨rfl,rfl,rfl⟩:=H
   go_enter Try.func129,Try.ntmps129
   go_wp2_with (first|((with_reducible refine gate_callee (f:=105) rfl ?_);refine goesL_ (some 9) rfl rfl Try.func105 (by kernel_rfl) rfl #[.pointer (some ⟨g,0,none⟩),.int .i64 (l1.length:Int)] rfl (by (try simp only [List.map_toArray,List.map_cons,List.map_nil]);first|done|rfl|(simp only [List.length_drop,List.length_take];rfl)) ?_;(with_reducible refine (spec_l1Below.calls g s0_0 s0_1 s0_2 (l1.length:Int) t422 t423 t424 w0 _ ?side1 ?side2 A3.out).mono ?_);(case side1=>repeat (first|(with_reducible first|exact HI0.out|apply IsS142.alloc|apply IsS142.drewN|apply IsS142.drew|apply IsS142.set_1|apply IsS142.set_2)|exact HI0.out));(case side2=>repeat (first|(with_reducible first|exact HB.out|apply below_alloc|apply pw_below_drewN|apply below_drew1|refine below_set ?_ (IsS142.ge HI0.out))|exact HB.out));rintro e w6 ⟨rfl,hi,hb,hk⟩;refine ⟨_,rfl,?_⟩;have n0_:=Aside0.mk (KeepBut.trans (by repeat (first|(with_reducible first|exact HK.out|apply KeepBut.set_|apply keep_drewN|apply keep_drew|apply keep_alloc)|exact HK.out)) hk (.inl rfl));have n1_:=Aside0.mk (hb);have n2_:=Aside0.mk (hi);clear HK;clear HB;clear HI0;have HK:=n0_;have HB:=n1_;have HI0:=n2_;clear n0_ n1_ n2_;(try clear hb);(try clear hb2);(try clear hk);(try clear hi);have p425:0≤(t422:Int):=of_decide_eq_true (by first|(with_reducible assumption)|assumption);have q425:t422 < (l1.length:Int):=of_decide_eq_true (by first|(with_reducible assumption)|assumption);obtain ⟨ad425,e425,hx425_0⟩:=Kd.at_string HR1.out t422 p425 q425;cases e425;replace hx425_0:=keep_cell HK.out hx425_0 (by first|(rw [add_block];exact hf1 _ rfl (by omega))|exact hf1 _ rfl (by omega)|exact hf1 ad425 rfl (by omega));replace p425:=eq_true p425;replace q425:=eq_true q425))
   go_ret
   exact ⟨by first|rfl|(simp [errW_none,errW_some] <;> rfl)|(simp [*,errW_none,errW_some] <;> rfl),by repeat (first|(with_reducible first|exact HI0.out|apply IsS142.alloc|apply IsS142.drewN|apply IsS142.drew|apply IsS142.set_1|apply IsS142.set_2)|exact HI0.out),by repeat (first|(with_reducible first|exact HB.out|apply below_alloc|apply pw_below_drewN|apply below_drew1|refine below_set ?_ (IsS142.ge HI0.out))|exact HB.out),by repeat (first|(with_reducible first|exact HK.out|apply KeepBut.set_|apply keep_drewN|apply keep_drew|apply keep_alloc)|exact HK.out)⟩
  ·rw [if_neg c5] at H
   exact absurd H (by simp)
 ·rw [if_neg c4] at H
  exact absurd H (by simp)
def spec_l3Name.f (s0_0:List Int) (s0_1:Int) (s0_2:Int):Option (ByteArray × Int × Int):=(spec_l1Str.f s0_0 s0_1 s0_2 (([(⟨#[97]⟩:ByteArray),(⟨#[98]⟩:ByteArray),(⟨#[99,97,116,47,49]⟩:ByteArray),(⟨#[99,97,116,47,50]⟩:ByteArray),(⟨#[100,111,103]⟩:ByteArray),(⟨#[120,45,49]⟩:ByteArray)]:List ByteArray))).bind fun bt429=>(some (bt429.1,bt429.2.1,bt429.2.2))
set_option maxHeartbeats 8000000 in
set_option maxRecDepth 100000 in
theorem spec_l3Name.calls (g:Nat) (s0_0:List Int) (s0_1:Int) (s0_2:Int) (r1:ByteArray) (r2:Int) (r3:Int) (w0 w:World) (hI:IsS142 w0 w g s0_0 s0_1 s0_2) (hB:Below w0.heap.size w0 w) (h:spec_l3Name.f s0_0 s0_1 s0_2=some (r1,r2,r3)) :
  Calls Try.prog 130 #[.pointer (some ⟨g,0,none⟩)] w fun e w'=>e = .returned (.string r1)∧IsS142 w0 w' g s0_0 r2 r3∧Below w0.heap.size w0 w' ∧ KeepBut w w' g none:=by
 have HI0:=Aside0.mk hI
 have HK:=Aside0.mk (KeepBut.refl w g none)
 have HL:=Aside0.mk hB.size
 clear hI
 have HW0:=Aside0.mk hB.size
 have HB:=Aside0.mk hB
 clear hB
 have H:((spec_l1Str.f s0_0 s0_1 s0_2 (([(⟨#[97]⟩:ByteArray),(⟨#[98]⟩:ByteArray),(⟨#[99,97,116,47,49]⟩:ByteArray),(⟨#[99,97,116,47,50]⟩:ByteArray),(⟨#[100,111,103]⟩:ByteArray),(⟨#[120,45,49]⟩:ByteArray)]:List ByteArray))).bind fun bt429=>(some (bt429.1,bt429.2.1,bt429.2.2)))=some (r1,r2,r3):=h
 clear h
 obtain ⟨y426,hy426⟩ : ∃ y_:List ByteArray,y_=(([(⟨#[97]⟩:ByteArray),(⟨#[98]⟩:ByteArray),(⟨#[99,97,116,47,49]⟩:ByteArray),(⟨#[99,97,116,47,50]⟩:ByteArray),(⟨#[100,111,103]⟩:ByteArray),(⟨#[120,45,49]⟩:ByteArray)]:List ByteArray)):=⟨_,rfl⟩
 replace H:((spec_l1Str.f s0_0 s0_1 s0_2 y426).bind fun bt429=>(some (bt429.1,bt429.2.1,bt429.2.2)))=some (r1,r2,r3):=by first|(rw [hy426];with_reducible exact H)|(have H2_:=(Option.bind_some _ _).symm.trans H;rw [hy426];with_reducible exact H2_)|(have H2_:=(Option.bind_some _ _).symm.trans H;with_reducible exact H2_)|with_reducible exact H|(rw [hy426];exact H)|exact H
 have Ny426:=Aside0.mk hy426
 clear hy426
 replace H:=Option.bind_eq_some_iff.mp H
 obtain ⟨⟨t429,t430,t431⟩,A20,H⟩:=H
 replace H:(some (t429,t430,t431))=some (r1,r2,r3):=H
 have A2:=Aside0.mk A20
 clear A20
 simp only [Option.some.injEq,Prod.mk.injEq] at H
 obtain ⟨rfl,rfl,rfl⟩:=H
 go_enter Try.func130,Try.ntmps130
 go_wp2_with (first|((with_reducible refine gate_dst (N:=4) rfl ?_);refine Kd.R_lit Kd.string _ 9 ?hg (N:=4) ?hd (xs:=([(⟨#[97]⟩:ByteArray),(⟨#[98]⟩:ByteArray),(⟨#[99,97,116,47,49]⟩:ByteArray),(⟨#[99,97,116,47,50]⟩:ByteArray),(⟨#[100,111,103]⟩:ByteArray),(⟨#[120,45,49]⟩:ByteArray)]:List ByteArray)) (inner:=[.string (⟨#[97]⟩:ByteArray),.string (⟨#[98]⟩:ByteArray),.string (⟨#[99,97,116,47,49]⟩:ByteArray),.string (⟨#[99,97,116,47,50]⟩:ByteArray),.string (⟨#[100,111,103]⟩:ByteArray),.string (⟨#[120,45,49]⟩:ByteArray)]) (ok:=fun _=>True) (okp:=fun _=>True) ?hr ?hp (fun _ hk=>hk) trivial (Below.refl _ _) (Nat.le_refl _) (by simp) ?_;(case hd=>rfl);(case hg=>rfl);(case hr=>first|(go_simp;done)|(go_simp;rfl));(case hp=>exact (Reps.one (show Kd.M Kd.string _ _ _ (⟨#[97]⟩:ByteArray) [.string (⟨#[97]⟩:ByteArray)] from rfl) (Reps.one (show Kd.M Kd.string _ _ _ (⟨#[98]⟩:ByteArray) [.string (⟨#[98]⟩:ByteArray)] from rfl) (Reps.one (show Kd.M Kd.string _ _ _ (⟨#[99,97,116,47,49]⟩:ByteArray) [.string (⟨#[99,97,116,47,49]⟩:ByteArray)] from rfl) (Reps.one (show Kd.M Kd.string _ _ _ (⟨#[99,97,116,47,50]⟩:ByteArray) [.string (⟨#[99,97,116,47,50]⟩:ByteArray)] from rfl) (Reps.one (show Kd.M Kd.string _ _ _ (⟨#[100,111,103]⟩:ByteArray) [.string (⟨#[100,111,103]⟩:ByteArray)] from rfl) (Reps.one (show Kd.M Kd.string _ _ _ (⟨#[120,45,49]⟩:ByteArray) [.string (⟨#[120,45,49]⟩:ByteArray)] from rfl) (Reps.none _ _))))))));intro v427 w3 ho4 hb hg_ hnew_;clear hg_ hnew_;(first|rw [← Ny426.out] at ho4|(simp only [Int.reduceToNat] at ho4;rw [← Ny426.out] at ho4));have n0_:=Aside0.mk (Kd.R_lower ho4 (keep_size (w:=w) (g:=g) (row:=none) (by repeat (first|(with_reducible first|exact HK.out|apply KeepBut.set_|apply keep_drewN|apply keep_drew|apply keep_alloc)|exact HK.out))));have n1_:=Aside0.mk (IsS142.below (by repeat (first|(with_reducible first|exact HI0.out|apply IsS142.alloc|apply IsS142.drewN|apply IsS142.drew|apply IsS142.set_1|apply IsS142.set_2)|exact HI0.out)) hb);have n2_:=Aside0.mk (KeepBut.trans (by repeat (first|(with_reducible first|exact HK.out|apply KeepBut.set_|apply keep_drewN|apply keep_drew|apply keep_alloc)|exact HK.out)) (KeepBut.of_below hb g none) (.inl rfl));have n3_:=Aside0.mk (below_step (by repeat (first|(with_reducible first|exact HB.out|apply below_alloc|apply pw_below_drewN|apply below_drew1|refine below_set ?_ (IsS142.ge HI0.out))|exact HB.out)) hb);clear HI0;clear HK;clear HB;have HO428:=n0_;have HI0:=n1_;have HK:=n2_;have HB:=n3_;clear n0_ n1_ n2_ n3_;clear hb ho4;obtain ⟨Ao5,co5,eo5⟩:=Kd.R_slice HO428.out;subst eo5)|((with_reducible refine gate_callee (f:=129) rfl ?_);refine goesL_ (some 5) rfl rfl Try.func129 (by kernel_rfl) rfl #[.pointer (some ⟨g,0,none⟩),.slice Ao5 y426.length co5] rfl (by (try simp only [List.map_toArray,List.map_cons,List.map_nil]);first|done|rfl|(simp only [List.length_drop,List.length_take];rfl)) ?_;(with_reducible refine (spec_l1Str.calls g s0_0 s0_1 s0_2 _ _ y426 t429 t430 t431 w0 _ ?side1 ?side2 ?side3 ?side4 ?side5 A2.out).mono ?_);(case side1=>repeat (first|(with_reducible first|exact HI0.out|apply IsS142.alloc|apply IsS142.drewN|apply IsS142.drew|apply IsS142.set_1|apply IsS142.set_2)|exact HI0.out));(case side2=>repeat (first|(with_reducible first|exact HB.out|apply below_alloc|apply pw_below_drewN|apply below_drew1|refine below_set ?_ (IsS142.ge HI0.out))|exact HB.out));(case side3=>repeat (first|exact (Kd.R_reads' HO428.out).2.2|(with_reducible refine Kd.C_alloc ?_ _)|(with_reducible refine Kd.C_drewN ?_ _)|(with_reducible refine Kd.C_drew ?_)));(case side4=>exact (Kd.R_reads' HO428.out).2.1);(case side5=>exact far_slice (IsS142.own_ne HI0.out HO428.out (by decide)));rintro e w6 ⟨rfl,hi,hb,hk⟩;refine ⟨_,rfl,?_⟩;have n0_:=Aside0.mk (Kd.R_mono (Kd.R_keep (IsS142.apart (show IsS142 w0 _ g s0_0 s0_1 s0_2 from by repeat (first|(with_reducible first|exact HI0.out|apply IsS142.alloc|apply IsS142.drewN|apply IsS142.drew|apply IsS142.set_1|apply IsS142.set_2)|exact HI0.out)) (by (with_reducible repeat (first|apply Kd.R_alloc|apply Kd.R_drewN|apply Kd.R_drew));exact HO428.out) (by decide)) hk (fun _ h=>h.2)) (fun _ h=>h.1));have n1_:=Aside0.mk (KeepBut.trans (by repeat (first|(with_reducible first|exact HK.out|apply KeepBut.set_|apply keep_drewN|apply keep_drew|apply keep_alloc)|exact HK.out)) hk (.inl rfl));have n2_:=Aside0.mk (hb);have n3_:=Aside0.mk (hi);clear HO428;clear HK;clear HB;clear HI0;have HO428:=n0_;have HK:=n1_;have HB:=n2_;have HI0:=n3_;clear n0_ n1_ n2_ n3_;(try clear hb);(try clear hb2);(try clear hk);(try clear hi)))
 go_ret
 exact ⟨by first|rfl|(simp [errW_none,errW_some] <;> rfl)|(simp [*,errW_none,errW_some] <;> rfl),by repeat (first|(with_reducible first|exact HI0.out|apply IsS142.alloc|apply IsS142.drewN|apply IsS142.drew|apply IsS142.set_1|apply IsS142.set_2)|exact HI0.out),by repeat (first|(with_reducible first|exact HB.out|apply below_alloc|apply pw_below_drewN|apply below_drew1|refine below_set ?_ (IsS142.ge HI0.out))|exact HB.out),by repeat (first|(with_reducible first|exact HK.out|apply KeepBut.set_|apply keep_drewN|apply keep_drew|apply keep_alloc)|exact HK.out)⟩
def spec_l3Any.f (s0_0:List Int) (s0_1:Int) (s0_2:Int):Option (ByteArray × Int × Int):=(spec_l1Once.f s0_0 s0_1 s0_2 5).bind fun bt432=>(if bt432.1=true then ((spec_l1Str.f s0_0 bt432.2.1 bt432.2.2 (([(⟨#[]⟩:ByteArray),(⟨#[65]⟩:ByteArray),(⟨#[97,32,98]⟩:ByteArray),(⟨#[116,119,101,110,116,121,111,110,101,98,121,116,101,115,116,119,101,110,116,121,111]⟩:ByteArray),(⟨#[116,119,101,110,116,121,98,121,116,101,115,116,119,101,110,116,121,98,121,116]⟩:ByteArray),(⟨#[47]⟩:ByteArray)]:List ByteArray))).bind fun bt438=>(some (bt438.1,bt438.2.1,bt438.2.2))) else ((spec_l3Name.f s0_0 bt432.2.1 bt432.2.2).bind fun bt441=>(some (bt441.1,bt441.2.1,bt441.2.2))))
set_option maxHeartbeats 8000000 in
set_option maxRecDepth 100000 in
theorem spec_l3Any.calls (g:Nat) (s0_0:List Int) (s0_1:Int) (s0_2:Int) (r1:ByteArray) (r2:Int) (r3:Int) (w0 w:World) (hI:IsS142 w0 w g s0_0 s0_1 s0_2) (hB:Below w0.heap.size w0 w) (h:spec_l3Any.f s0_0 s0_1 s0_2=some (r1,r2,r3)) :
  Calls Try.prog 113 #[.pointer (some ⟨g,0,none⟩)] w fun e w'=>e = .returned (.string r1)∧IsS142 w0 w' g s0_0 r2 r3∧Below w0.heap.size w0 w' ∧ KeepBut w w' g none:=by
 have HI0:=Aside0.mk hI
 have HK:=Aside0.mk (KeepBut.refl w g none)
 have HL:=Aside0.mk hB.size
 clear hI
 have HW0:=Aside0.mk hB.size
 have HB:=Aside0.mk hB
 clear hB
 have H:((spec_l1Once.f s0_0 s0_1 s0_2 5).bind fun bt432=>(if bt432.1=true then ((spec_l1Str.f s0_0 bt432.2.1 bt432.2.2 (([(⟨#[]⟩:ByteArray),(⟨#[65]⟩:ByteArray),(⟨#[97,32,98]⟩:ByteArray),(⟨#[116,119,101,110,116,121,111,110,101,98,121,116,101,115,116,119,101,110,116,121,111]⟩:ByteArray),(⟨#[116,119,101,110,116,121,98,121,116,101,115,116,119,101,110,116,121,98,121,116]⟩:ByteArray),(⟨#[47]⟩:ByteArray)]:List ByteArray))).bind fun bt438=>(some (bt438.1,bt438.2.1,bt438.2.2))) else ((spec_l3Name.f s0_0 bt432.2.1 bt432.2.2).bind fun bt441=>(some (bt441.1,bt441.2.1,bt441.2.2)))))=some (r1,r2,r3):=h
 clear h
 replace H:=Option.bind_eq_some_iff.mp H
 obtain ⟨⟨t432,t433,t434⟩,A20,H⟩:=H
 replace H:(if t432=true then ((spec_l1Str.f s0_0 t433 t434 (([(⟨#[]⟩:ByteArray),(⟨#[65]⟩:ByteArray),(⟨#[97,32,98]⟩:ByteArray),(⟨#[116,119,101,110,116,121,111,110,101,98,121,116,101,115,116,119,101,110,116,121,111]⟩:ByteArray),(⟨#[116,119,101,110,116,121,98,121,116,101,115,116,119,101,110,116,121,98,121,116]⟩:ByteArray),(⟨#[47]⟩:ByteArray)]:List ByteArray))).bind fun bt438=>(some (bt438.1,bt438.2.1,bt438.2.2))) else ((spec_l3Name.f s0_0 t433 t434).bind fun bt441=>(some (bt441.1,bt441.2.1,bt441.2.2))))=some (r1,r2,r3):=H
 have A2:=Aside0.mk A20
 clear A20
 by_cases c3:t432=true
 ·subst c3
  have H1:((spec_l1Str.f s0_0 t433 t434 (([(⟨#[]⟩:ByteArray),(⟨#[65]⟩:ByteArray),(⟨#[97,32,98]⟩:ByteArray),(⟨#[116,119,101,110,116,121,111,110,101,98,121,116,101,115,116,119,101,110,116,121,111]⟩:ByteArray),(⟨#[116,119,101,110,116,121,98,121,116,101,115,116,119,101,110,116,121,98,121,116]⟩:ByteArray),(⟨#[47]⟩:ByteArray)]:List ByteArray))).bind fun bt438=>(some (bt438.1,bt438.2.1,bt438.2.2)))=some (r1,r2,r3):=by rw [if_pos rfl] at H;exact H
  clear H
  have H:=H1
  clear H1
  obtain ⟨y435,hy435⟩ : ∃ y_:List ByteArray,y_=(([(⟨#[]⟩:ByteArray),(⟨#[65]⟩:ByteArray),(⟨#[97,32,98]⟩:ByteArray),(⟨#[116,119,101,110,116,121,111,110,101,98,121,116,101,115,116,119,101,110,116,121,111]⟩:ByteArray),(⟨#[116,119,101,110,116,121,98,121,116,101,115,116,119,101,110,116,121,98,121,116]⟩:ByteArray),(⟨#[47]⟩:ByteArray)]:List ByteArray)):=⟨_,rfl⟩
  replace H:((spec_l1Str.f s0_0 t433 t434 y435).bind fun bt438=>(some (bt438.1,bt438.2.1,bt438.2.2)))=some (r1,r2,r3):=by first|(rw [hy435];with_reducible exact H)|(have H2_:=(Option.bind_some _ _).symm.trans H;rw [hy435];with_reducible exact H2_)|(have H2_:=(Option.bind_some _ _).symm.trans H;with_reducible exact H2_)|with_reducible exact H|(rw [hy435];exact H)|exact H
  have Ny435:=Aside0.mk hy435
  clear hy435
  replace H:=Option.bind_eq_some_iff.mp H
  obtain ⟨⟨t438,t439,t440⟩,A40,H⟩:=H
  replace H:(some (t438,t439,t440))=some (r1,r2,r3):=H
  have A4:=Aside0.mk A40
  clear A40
  simp only [Option.some.injEq,Prod.mk.injEq] at H
  obtain ⟨rfl,rfl,rfl⟩:=H
  go_enter Try.func113,Try.ntmps113
  go_wp2_with (first|((with_reducible refine gate_callee (f:=115) rfl ?_);refine goesL_ (some 4) rfl rfl Try.func115 (by kernel_rfl) rfl #[.pointer (some ⟨g,0,none⟩),.int .i64 5] rfl (by (try simp only [List.map_toArray,List.map_cons,List.map_nil]);first|done|rfl|(simp only [List.length_drop,List.length_take];rfl)) ?_;(with_reducible refine (spec_l1Once.calls g s0_0 s0_1 s0_2 5 true t433 t434 w0 _ ?side1 ?side2 A2.out).mono ?_);(case side1=>repeat (first|(with_reducible first|exact HI0.out|apply IsS142.alloc|apply IsS142.drewN|apply IsS142.drew|apply IsS142.set_1|apply IsS142.set_2)|exact HI0.out));(case side2=>repeat (first|(with_reducible first|exact HB.out|apply below_alloc|apply pw_below_drewN|apply below_drew1|refine below_set ?_ (IsS142.ge HI0.out))|exact HB.out));rintro e w5 ⟨rfl,hi,hb,hk⟩;refine ⟨_,rfl,?_⟩;have n0_:=Aside0.mk (KeepBut.trans (by repeat (first|(with_reducible first|exact HK.out|apply KeepBut.set_|apply keep_drewN|apply keep_drew|apply keep_alloc)|exact HK.out)) hk (.inl rfl));have n1_:=Aside0.mk (hb);have n2_:=Aside0.mk (hi);clear HK;clear HB;clear HI0;have HK:=n0_;have HB:=n1_;have HI0:=n2_;clear n0_ n1_ n2_;(try clear hb);(try clear hb2);(try clear hk);(try clear hi))|((with_reducible refine gate_dst (N:=6) rfl ?_);refine Kd.R_lit Kd.string _ 9 ?hg (N:=6) ?hd (xs:=([(⟨#[]⟩:ByteArray),(⟨#[65]⟩:ByteArray),(⟨#[97,32,98]⟩:ByteArray),(⟨#[116,119,101,110,116,121,111,110,101,98,121,116,101,115,116,119,101,110,116,121,111]⟩:ByteArray),(⟨#[116,119,101,110,116,121,98,121,116,101,115,116,119,101,110,116,121,98,121,116]⟩:ByteArray),(⟨#[47]⟩:ByteArray)]:List ByteArray)) (inner:=[.string (⟨#[]⟩:ByteArray),.string (⟨#[65]⟩:ByteArray),.string (⟨#[97,32,98]⟩:ByteArray),.string (⟨#[116,119,101,110,116,121,111,110,101,98,121,116,101,115,116,119,101,110,116,121,111]⟩:ByteArray),.string (⟨#[116,119,101,110,116,121,98,121,116,101,115,116,119,101,110,116,121,98,121,116]⟩:ByteArray),.string (⟨#[47]⟩:ByteArray)]) (ok:=fun _=>True) (okp:=fun _=>True) ?hr ?hp (fun _ hk=>hk) trivial (Below.refl _ _) (Nat.le_refl _) (by simp) ?_;(case hd=>rfl);(case hg=>rfl);(case hr=>first|(go_simp;done)|(go_simp;rfl));(case hp=>exact (Reps.one (show Kd.M Kd.string _ _ _ (⟨#[]⟩:ByteArray) [.string (⟨#[]⟩:ByteArray)] from rfl) (Reps.one (show Kd.M Kd.string _ _ _ (⟨#[65]⟩:ByteArray) [.string (⟨#[65]⟩:ByteArray)] from rfl) (Reps.one (show Kd.M Kd.string _ _ _ (⟨#[97,32,98]⟩:ByteArray) [.string (⟨#[97,32,98]⟩:ByteArray)] from rfl) (Reps.one (show Kd.M Kd.string _ _ _ (⟨#[116,119,101,110,116,121,111,110,101,98,121,116,101,115,116,119,101,110,116,121,111]⟩:ByteArray) [.string (⟨#[116,119,101,110,116,121,111,110,101,98,121,116,101,115,116,119,101,110,116,121,111]⟩:ByteArray)] from rfl) (Reps.one (show Kd.M Kd.string _ _ _ (⟨#[116,119,101,110,116,121,98,121,116,101,115,116,119,101,110,116,121,98,121,116]⟩:ByteArray) [.string (⟨#[116,119,101,110,116,121,98,121,116,101,115,116,119,101,110,116,121,98,121,116]⟩:ByteArray)] from rfl) (Reps.one (show Kd.M Kd.string _ _ _ (⟨#[47]⟩:ByteArray) [.string (⟨#[47]⟩:ByteArray)] from rfl) (Reps.none _ _))))))));intro v436 w6 ho7 hb hg_ hnew_;clear hg_ hnew_;(first|rw [← Ny435.out] at ho7|(simp only [Int.reduceToNat] at ho7;rw [← Ny435.out] at ho7));have n0_:=Aside0.mk (Kd.R_lower ho7 (keep_size (w:=w) (g:=g) (row:=none) (by repeat (first|(with_reducible first|exact HK.out|apply KeepBut.set_|apply keep_drewN|apply keep_drew|apply keep_alloc)|exact HK.out))));have n1_:=Aside0.mk (IsS142.below (by repeat (first|(with_reducible first|exact HI0.out|apply IsS142.alloc|apply IsS142.drewN|apply IsS142.drew|apply IsS142.set_1|apply IsS142.set_2)|exact HI0.out)) hb);have n2_:=Aside0.mk (KeepBut.trans (by repeat (first|(with_reducible first|exact HK.out|apply KeepBut.set_|apply keep_drewN|apply keep_drew|apply keep_alloc)|exact HK.out)) (KeepBut.of_below hb g none) (.inl rfl));have n3_:=Aside0.mk (below_step (by repeat (first|(with_reducible first|exact HB.out|apply below_alloc|apply pw_below_drewN|apply below_drew1|refine below_set ?_ (IsS142.ge HI0.out))|exact HB.out)) hb);clear HI0;clear HK;clear HB;have HO437:=n0_;have HI0:=n1_;have HK:=n2_;have HB:=n3_;clear n0_ n1_ n2_ n3_;clear hb ho7;obtain ⟨Ao8,co8,eo8⟩:=Kd.R_slice HO437.out;subst eo8)|((with_reducible refine gate_callee (f:=129) rfl ?_);refine goesL_ (some 7) rfl rfl Try.func129 (by kernel_rfl) rfl #[.pointer (some ⟨g,0,none⟩),.slice Ao8 y435.length co8] rfl (by (try simp only [List.map_toArray,List.map_cons,List.map_nil]);first|done|rfl|(simp only [List.length_drop,List.length_take];rfl)) ?_;(with_reducible refine (spec_l1Str.calls g s0_0 t433 t434 _ _ y435 t438 t439 t440 w0 _ ?side1 ?side2 ?side3 ?side4 ?side5 A4.out).mono ?_);(case side1=>repeat (first|(with_reducible first|exact HI0.out|apply IsS142.alloc|apply IsS142.drewN|apply IsS142.drew|apply IsS142.set_1|apply IsS142.set_2)|exact HI0.out));(case side2=>repeat (first|(with_reducible first|exact HB.out|apply below_alloc|apply pw_below_drewN|apply below_drew1|refine below_set ?_ (IsS142.ge HI0.out))|exact HB.out));(case side3=>repeat (first|exact (Kd.R_reads' HO437.out).2.2|(with_reducible refine Kd.C_alloc ?_ _)|(with_reducible refine Kd.C_drewN ?_ _)|(with_reducible refine Kd.C_drew ?_)));(case side4=>exact (Kd.R_reads' HO437.out).2.1);(case side5=>exact far_slice (IsS142.own_ne HI0.out HO437.out (by decide)));rintro e w9 ⟨rfl,hi,hb,hk⟩;refine ⟨_,rfl,?_⟩;have n0_:=Aside0.mk (Kd.R_mono (Kd.R_keep (IsS142.apart (show IsS142 w0 _ g s0_0 t433 t434 from by repeat (first|(with_reducible first|exact HI0.out|apply IsS142.alloc|apply IsS142.drewN|apply IsS142.drew|apply IsS142.set_1|apply IsS142.set_2)|exact HI0.out)) (by (with_reducible repeat (first|apply Kd.R_alloc|apply Kd.R_drewN|apply Kd.R_drew));exact HO437.out) (by decide)) hk (fun _ h=>h.2)) (fun _ h=>h.1));have n1_:=Aside0.mk (KeepBut.trans (by repeat (first|(with_reducible first|exact HK.out|apply KeepBut.set_|apply keep_drewN|apply keep_drew|apply keep_alloc)|exact HK.out)) hk (.inl rfl));have n2_:=Aside0.mk (hb);have n3_:=Aside0.mk (hi);clear HO437;clear HK;clear HB;clear HI0;have HO437:=n0_;have HK:=n1_;have HB:=n2_;have HI0:=n3_;clear n0_ n1_ n2_ n3_;(try clear hb);(try clear hb2);(try clear hk);(try clear hi)))
  go_ret
  exact ⟨by first|rfl|(simp [errW_none,errW_some] <;> rfl)|(simp [*,errW_none,errW_some] <;> rfl),by repeat (first|(with_reducible first|exact HI0.out|apply IsS142.alloc|apply IsS142.drewN|apply IsS142.drew|apply IsS142.set_1|apply IsS142.set_2)|exact HI0.out),by repeat (first|(with_reducible first|exact HB.out|apply below_alloc|apply pw_below_drewN|apply below_drew1|refine below_set ?_ (IsS142.ge HI0.out))|exact HB.out),by repeat (first|(with_reducible first|exact HK.out|apply KeepBut.set_|apply keep_drewN|apply keep_drew|apply keep_alloc)|exact HK.out)⟩
 ·replace c3:=Bool.eq_false_iff.mpr c3
  subst c3
  have H1:((spec_l3Name.f s0_0 t433 t434).bind fun bt441=>(some (bt441.1,bt441.2.1,bt441.2.2)))=some (r1,r2,r3):=by rw [if_neg (show ¬ (false=true) by decide)] at H;exact H
  clear H
  have H:=H1
  clear H1
  replace H:=Option.bind_eq_some_iff.mp H
  obtain ⟨⟨t441,t442,t443⟩,A100,H⟩:=H
  replace H:(some (t441,t442,t443))=some (r1,r2,r3):=H
  have A10:=Aside0.mk A100
  clear A100
  simp only [Option.some.injEq,Prod.mk.injEq] at H
  obtain ⟨rfl,rfl,rfl⟩:=H
  go_enter Try.func113,Try.ntmps113
  go_wp2_with (first|((with_reducible refine gate_callee (f:=115) rfl ?_);refine goesL_ (some 4) rfl rfl Try.func115 (by kernel_rfl) rfl #[.pointer (some ⟨g,0,none⟩),.int .i64 5] rfl (by (try simp only [List.map_toArray,List.map_cons,List.map_nil]);first|done|rfl|(simp only [List.length_drop,List.length_take];rfl)) ?_;(with_reducible refine (spec_l1Once.calls g s0_0 s0_1 s0_2 5 false t433 t434 w0 _ ?side1 ?side2 A2.out).mono ?_);(case side1=>repeat (first|(with_reducible first|exact HI0.out|apply IsS142.alloc|apply IsS142.drewN|apply IsS142.drew|apply IsS142.set_1|apply IsS142.set_2)|exact HI0.out));(case side2=>repeat (first|(with_reducible first|exact HB.out|apply below_alloc|apply pw_below_drewN|apply below_drew1|refine below_set ?_ (IsS142.ge HI0.out))|exact HB.out));rintro e w11 ⟨rfl,hi,hb,hk⟩;refine ⟨_,rfl,?_⟩;have n0_:=Aside0.mk (KeepBut.trans (by repeat (first|(with_reducible first|exact HK.out|apply KeepBut.set_|apply keep_drewN|apply keep_drew|apply keep_alloc)|exact HK.out)) hk (.inl rfl));have n1_:=Aside0.mk (hb);have n2_:=Aside0.mk (hi);clear HK;clear HB;clear HI0;have HK:=n0_;have HB:=n1_;have HI0:=n2_;clear n0_ n1_ n2_;(try clear hb);(try clear hb2);(try clear hk);(try clear hi))|((with_reducible refine gate_callee (f:=130) rfl ?_);refine goesL_ (some 9) rfl rfl Try.func130 (by kernel_rfl) rfl #[.pointer (some ⟨g,0,none⟩)] rfl (by (try simp only [List.map_toArray,List.map_cons,List.map_nil]);first|done|rfl|(simp only [List.length_drop,List.length_take];rfl)) ?_;(with_reducible refine (spec_l3Name.calls g s0_0 t433 t434 t441 t442 t443 w0 _ ?side1 ?side2 A10.out).mono ?_);(case side1=>repeat (first|(with_reducible first|exact HI0.out|apply IsS142.alloc|apply IsS142.drewN|apply IsS142.drew|apply IsS142.set_1|apply IsS142.set_2)|exact HI0.out));(case side2=>repeat (first|(with_reducible first|exact HB.out|apply below_alloc|apply pw_below_drewN|apply below_drew1|refine below_set ?_ (IsS142.ge HI0.out))|exact HB.out));rintro e w12 ⟨rfl,hi,hb,hk⟩;refine ⟨_,rfl,?_⟩;have n0_:=Aside0.mk (KeepBut.trans (by repeat (first|(with_reducible first|exact HK.out|apply KeepBut.set_|apply keep_drewN|apply keep_drew|apply keep_alloc)|exact HK.out)) hk (.inl rfl));have n1_:=Aside0.mk (hb);have n2_:=Aside0.mk (hi);clear HK;clear HB;clear HI0;have HK:=n0_;have HB:=n1_;have HI0:=n2_;clear n0_ n1_ n2_;(try clear hb);(try clear hb2);(try clear hk);(try clear hi)))
  go_ret
  exact ⟨by first|rfl|(simp [errW_none,errW_some] <;> rfl)|(simp [*,errW_none,errW_some] <;> rfl),by repeat (first|(with_reducible first|exact HI0.out|apply IsS142.alloc|apply IsS142.drewN|apply IsS142.drew|apply IsS142.set_1|apply IsS142.set_2)|exact HI0.out),by repeat (first|(with_reducible first|exact HB.out|apply below_alloc|apply pw_below_drewN|apply below_drew1|refine below_set ?_ (IsS142.ge HI0.out))|exact HB.out),by repeat (first|(with_reducible first|exact HK.out|apply KeepBut.set_|apply keep_drewN|apply keep_drew|apply keep_alloc)|exact HK.out)⟩
def spec_DrawHandoffs.f (k:Nat) (l0:List Int):Option (Int × (List (S29)) × (List (S76)) × ByteArray):=(spec_l1New.f k l0).bind fun bt445=>((spec_l5Any.f k bt445.1 bt445.2.1 bt445.2.2).bind fun bt449=>((spec_l3Any.f bt445.1 bt449.2.2.2.1 bt449.2.2.2.2).bind fun bt459=>(some (bt449.2.1,bt449.2.2.1,bt449.1,bt459.1))))
set_option maxHeartbeats 8000000 in
set_option maxRecDepth 100000 in
theorem spec_DrawHandoffs.calls (k:Nat) (A0:Option Addr) (c0:Nat) (l0:List Int) (r1:Int) (r2:List (S29)) (r3:List (S76)) (r4:ByteArray) (w:World) (hr0:Kd.C (Kd.int .u8) w A0 l0.length l0) (hc0:l0.length≤c0) (h:spec_DrawHandoffs.f k l0=some (r1,r2,r3,r4)) :
  Calls Try.prog 63 #[.slice A0 l0.length c0] w fun e w'=>∃ v1_ v2_:Value,e = .returned (.tuple #[.agg #[.int .i64 r1,v1_],v2_,.string r4])∧Kd.S k29 29 w' w.heap.size (fun _=>True) v1_ r2∧Kd.R k76 76 w' w.heap.size (fun _=>True) v2_ r3∧Below w.heap.size w w':=by
 have hu43:=Try.underlying43
 have HR0:=Aside0.mk hr0
 have HC0:=Aside0.mk hc0
 clear hr0 hc0
 have HB:=Aside0.mk (Below.refl w.heap.size w)
 have H:((spec_l1New.f k l0).bind fun bt445=>((spec_l5Any.f k bt445.1 bt445.2.1 bt445.2.2).bind fun bt449=>((spec_l3Any.f bt445.1 bt449.2.2.2.1 bt449.2.2.2.2).bind fun bt459=>(some (bt449.2.1,bt449.2.2.1,bt449.1,bt459.1)))))=some (r1,r2,r3,r4):=h
 clear h
 replace H:=Option.bind_eq_some_iff.mp H
 obtain ⟨⟨t445,t446,t447⟩,A20,H⟩:=H
 replace H:((spec_l5Any.f k t445 t446 t447).bind fun bt449=>((spec_l3Any.f t445 bt449.2.2.2.1 bt449.2.2.2.2).bind fun bt459=>(some (bt449.2.1,bt449.2.2.1,bt449.1,bt459.1))))=some (r1,r2,r3,r4):=H
 have A2:=Aside0.mk A20
 clear A20
 replace H:=Option.bind_eq_some_iff.mp H
 obtain ⟨⟨t449,t452,t453,t456,t457⟩,A30,H⟩:=H
 replace H:((spec_l3Any.f t445 t456 t457).bind fun bt459=>(some (t452,t453,t449,bt459.1)))=some (r1,r2,r3,r4):=H
 have A3:=Aside0.mk A30
 clear A30
 replace H:=Option.bind_eq_some_iff.mp H
 obtain ⟨⟨t459,t460,t461⟩,A40,H⟩:=H
 replace H:(some (t452,t453,t449,t459))=some (r1,r2,r3,r4):=H
 have A4:=Aside0.mk A40
 clear A40
 simp only [Option.some.injEq,Prod.mk.injEq] at H
 obtain ⟨rfl,rfl,rfl,rfl⟩:=H
 go_enter Try.func63,Try.ntmps63
 try go_wp2_with (first|((with_reducible refine gate_dst (N:=2) rfl ?_);refine box_event ?hg (N:=2) ?hd (cs:=#[.int .i64 0,.slice none 0 0]) (t:=43) ?hr ?_;(case hd=>rfl);(case hg=>rfl);(case hr=>first|(go_simp;done)|(go_simp;rfl));intro gb444 hg w5 hbox hb;have n0_:=Aside0.mk (below_step (by repeat (first|(with_reducible first|exact HB.out|apply below_alloc|apply pw_below_drewN|apply below_drew1)|exact HB.out)) hb);have n1_:=Aside0.mk (hbox);have n2_:=Aside0.mk ((by rw [hg];exact (below_size (by repeat (first|(with_reducible first|exact HB.out|apply below_alloc|apply pw_below_drewN|apply below_drew1)|exact HB.out))):w.heap.size≤gb444));have n3_:=Aside0.mk ((by rw [hg];exact (below_size (by repeat (first|(with_reducible first|exact HB.out|apply below_alloc|apply pw_below_drewN|apply below_drew1)|exact HB.out))):w.heap.size≤gb444));clear HB;have HB:=n0_;have BK444:=n1_;have GW444:=n2_;have GE444:=n3_;clear n0_ n1_ n2_ n3_;clear hb hbox hg)|((with_reducible refine gate_callee (f:=103) rfl ?_);refine goesL_ (some 9) rfl rfl Try.func103 (by kernel_rfl) rfl #[.slice A0 l0.length c0] rfl (by (try simp only [List.map_toArray,List.map_cons,List.map_nil]);first|done|rfl|(simp only [List.length_drop,List.length_take];rfl)) ?_;(with_reducible refine (spec_l1New.calls k _ _ l0 t445 t446 t447 w _ ?side1 ?side2 ?side3 A2.out).mono ?_);(case side1=>repeat (first|(with_reducible first|exact HB.out|apply below_alloc|apply pw_below_drewN|apply below_drew1|refine below_set ?_ GE444.out)|exact HB.out));(case side2=>exact HR0.out);(case side3=>exact HC0.out);rintro e w6 ⟨g448,rfl,hi,hb,hb2⟩;refine ⟨_,rfl,?_⟩;have n0_:=Aside0.mk (blk_below (g:=gb444) (o:=.cells #[.int .i64 0,.slice none 0 0] 43 (0,0)) (by (with_reducible repeat (first|refine blk_drewN ?_ _|refine blk_drew ?_|refine blk_alloc ?_ _));exact BK444.out) hb2);have n1_:=Aside0.mk (hb);have n2_:=Aside0.mk (hi);have n3_:=Aside0.mk (IsS142.ne_blk hi (blk_below (g:=gb444) (o:=.cells #[.int .i64 0,.slice none 0 0] 43 (0,0)) (by (with_reducible repeat (first|refine blk_drewN ?_ _|refine blk_drew ?_|refine blk_alloc ?_ _));exact BK444.out) hb2) (by decide));have n4_:=Aside0.mk (Ne.symm (IsS142.ne_blk hi (blk_below (g:=gb444) (o:=.cells #[.int .i64 0,.slice none 0 0] 43 (0,0)) (by (with_reducible repeat (first|refine blk_drewN ?_ _|refine blk_drew ?_|refine blk_alloc ?_ _));exact BK444.out) hb2) (by decide)));clear BK444;clear HB;have BK444:=n0_;have HB:=n1_;have HI448:=n2_;have NB448_444:=n3_;have NB444_448:=n4_;clear n0_ n1_ n2_ n3_ n4_;(try clear hb);(try clear hb2);(try clear hk);(try clear hi))|((with_reducible refine gate_callee (f:=104) rfl ?_);refine goesL_ (some 12) rfl rfl Try.func104 (by kernel_rfl) rfl #[.pointer (some ⟨g448,0,none⟩)] rfl (by (try simp only [List.map_toArray,List.map_cons,List.map_nil]);first|done|rfl|(simp only [List.length_drop,List.length_take];rfl)) ?_;(with_reducible refine (spec_l5Any.calls k g448 t445 t446 t447 t449 t452 t453 t456 t457 w _ ?side1 ?side2 A3.out).mono ?_);(case side1=>repeat (first|(with_reducible first|exact HI448.out|apply IsS142.alloc|apply IsS142.drewN|apply IsS142.drew|apply IsS142.set_1|apply IsS142.set_2|refine IsS142.far ?_ NB448_444.out _)|exact HI448.out));(case side2=>repeat (first|(with_reducible first|exact HB.out|apply below_alloc|apply pw_below_drewN|apply below_drew1|refine below_set ?_ (IsS142.ge HI448.out)|refine below_set ?_ GE444.out)|exact HB.out));rintro e w7 ⟨v450,v454,rfl,ho0,ho1,hi,hb,hk⟩;refine ⟨_,rfl,?_⟩;have n0_:=Aside0.mk (KeepBut.blk hk (g':=gb444) (o:=.cells #[.int .i64 0,.slice none 0 0] 43 (0,0)) (by (with_reducible repeat (first|refine blk_drewN ?_ _|refine blk_drew ?_|refine blk_alloc ?_ _));exact BK444.out) NB444_448.out (by simp));have n1_:=Aside0.mk (Kd.R_lower ho0 (below_size (by repeat (first|(with_reducible first|exact HB.out|apply below_alloc|apply pw_below_drewN|apply below_drew1|refine below_set ?_ (IsS142.ge HI448.out)|refine below_set ?_ GE444.out)|exact HB.out))));have n2_:=Aside0.mk (Kd.S_lower ho1 (below_size (by repeat (first|(with_reducible first|exact HB.out|apply below_alloc|apply pw_below_drewN|apply below_drew1|refine below_set ?_ (IsS142.ge HI448.out)|refine below_set ?_ GE444.out)|exact HB.out))));have n3_:=Aside0.mk (hb);have n4_:=Aside0.mk (hi);clear BK444;clear HB;clear HI448;have BK444:=n0_;have HO451:=n1_;have HO455:=n2_;have HB:=n3_;have HI448:=n4_;clear n0_ n1_ n2_ n3_ n4_;(try clear hb);(try clear hb2);(try clear hk);(try clear hi);(try clear ho0);(try clear ho1))|((with_reducible refine gate_dst (N:=7) rfl ?_);refine box_event ?hg (N:=7) ?hd (cs:=#[.int .i64 0,.slice none 0 0]) (t:=43) ?hr ?_;(case hd=>rfl);(case hg=>rfl);(case hr=>first|(go_simp;done)|(go_simp;rfl));intro gb458 hg w8 hbox hb;have n0_:=Aside0.mk (Kd.R_below (by (with_reducible repeat (first|apply Kd.R_alloc|apply Kd.R_drewN|apply Kd.R_drew));exact HO451.out) hb);have n1_:=Aside0.mk (Kd.S_below (by (with_reducible repeat (first|apply Kd.S_alloc|apply Kd.S_drewN|apply Kd.S_drew));exact HO455.out) hb);have n2_:=Aside0.mk (blk_below (g:=gb444) (o:=.cells #[.int .i64 0,.slice none 0 0] 43 (0,0)) (by (with_reducible repeat (first|refine blk_drewN ?_ _|refine blk_drew ?_|refine blk_alloc ?_ _));exact BK444.out) hb);have n3_:=Aside0.mk (IsS142.below (by repeat (first|(with_reducible first|exact HI448.out|apply IsS142.alloc|apply IsS142.drewN|apply IsS142.drew|apply IsS142.set_1|apply IsS142.set_2|refine IsS142.far ?_ NB448_444.out _)|exact HI448.out)) hb);have n4_:=Aside0.mk (below_step (by repeat (first|(with_reducible first|exact HB.out|apply below_alloc|apply pw_below_drewN|apply below_drew1|refine below_set ?_ (IsS142.ge HI448.out)|refine below_set ?_ GE444.out)|exact HB.out)) hb);have n5_:=Aside0.mk (hbox);have n6_:=Aside0.mk ((by rw [hg];exact (below_size (by repeat (first|(with_reducible first|exact HB.out|apply below_alloc|apply pw_below_drewN|apply below_drew1|refine below_set ?_ (IsS142.ge HI448.out)|refine below_set ?_ GE444.out)|exact HB.out))):w.heap.size≤gb458));have n7_:=Aside0.mk ((by rw [hg];exact (below_size (by repeat (first|(with_reducible first|exact HB.out|apply below_alloc|apply pw_below_drewN|apply below_drew1|refine below_set ?_ (IsS142.ge HI448.out)|refine below_set ?_ GE444.out)|exact HB.out))):w.heap.size≤gb458));have n8_:=Aside0.mk ((by rw [hg];exact Nat.ne_of_lt (blk_lt (g:=gb444) (o:=.cells #[.int .i64 0,.slice none 0 0] 43 (0,0)) (by (with_reducible repeat (first|refine blk_drewN ?_ _|refine blk_drew ?_|refine blk_alloc ?_ _));exact BK444.out)):gb444 ≠ gb458));have n9_:=Aside0.mk ((by rw [hg];exact Nat.ne_of_gt (blk_lt (g:=gb444) (o:=.cells #[.int .i64 0,.slice none 0 0] 43 (0,0)) (by (with_reducible repeat (first|refine blk_drewN ?_ _|refine blk_drew ?_|refine blk_alloc ?_ _));exact BK444.out)):gb458 ≠ gb444));have n10_:=Aside0.mk ((by rw [hg];exact Nat.ne_of_lt (IsS142.lt (show IsS142 w _ g448 t445 t456 t457 from by repeat (first|(with_reducible first|exact HI448.out|apply IsS142.alloc|apply IsS142.drewN|apply IsS142.drew|apply IsS142.set_1|apply IsS142.set_2|refine IsS142.far ?_ NB448_444.out _)|exact HI448.out))):g448 ≠ gb458));have n11_:=Aside0.mk ((by rw [hg];exact Nat.ne_of_gt (IsS142.lt (show IsS142 w _ g448 t445 t456 t457 from by repeat (first|(with_reducible first|exact HI448.out|apply IsS142.alloc|apply IsS142.drewN|apply IsS142.drew|apply IsS142.set_1|apply IsS142.set_2|refine IsS142.far ?_ NB448_444.out _)|exact HI448.out))):gb458 ≠ g448));clear HO451;clear HO455;clear BK444;clear HI448;clear HB;have HO451:=n0_;have HO455:=n1_;have BK444:=n2_;have HI448:=n3_;have HB:=n4_;have BK458:=n5_;have GW458:=n6_;have GE458:=n7_;have NB444_458:=n8_;have NB458_444:=n9_;have NB448_458:=n10_;have NB458_448:=n11_;clear n0_ n1_ n2_ n3_ n4_ n5_ n6_ n7_ n8_ n9_ n10_ n11_;clear hb hbox hg;have hnb9:=NB458_444.out;have hnc9:=NB444_458.out;have hnb10:=NB458_448.out;have hnc10:=NB448_458.out;have hcz11_0:w8.cell? ⟨gb458,0,none⟩=some (.int .i64 0):=(blk_cell BK458.out 0).trans rfl;have hcz11_1:w8.cell? ⟨gb458,1,none⟩=some (.slice none 0 0):=(blk_cell BK458.out 1).trans rfl;have hfz11_0:=blk_frozen BK458.out 0;have hfz11_1:=blk_frozen BK458.out 1;obtain ⟨Ao12,co12,eo12⟩:=Kd.S_slice HO455.out;subst eo12))
 have n0_:Aside0 (Kd.R k76 76 ((w8.setCell ⟨gb458,0,none⟩ (.int .i64 t452)).setCell ⟨gb458,1,none⟩ (.slice Ao12 t453.length co12)) w.heap.size (fun _=>True) v450 t449):=⟨by (with_reducible repeat (first|apply Kd.R_alloc|apply Kd.R_drewN|apply Kd.R_drew));exact Kd.R_mono (Kd.R_far (p:=⟨gb458,1,none⟩) (Kd.R_far (p:=⟨gb458,0,none⟩) (Kd.R_types HO451.out BK458.out (by decide)) (fun _ hk=>hk.2) (.int .i64 t452)) (fun _ hk=>hk.2) (.slice Ao12 t453.length co12)) (fun _ hk=>trivial)⟩
 have n1_:Aside0 (Kd.S k29 29 ((w8.setCell ⟨gb458,0,none⟩ (.int .i64 t452)).setCell ⟨gb458,1,none⟩ (.slice Ao12 t453.length co12)) w.heap.size (fun _=>True) (.slice Ao12 t453.length co12) t453):=⟨by (with_reducible repeat (first|apply Kd.S_alloc|apply Kd.S_drewN|apply Kd.S_drew));exact Kd.S_mono (Kd.S_far (p:=⟨gb458,1,none⟩) (Kd.S_far (p:=⟨gb458,0,none⟩) (Kd.S_types HO455.out BK458.out (by decide)) (fun _ hk=>hk.2) (.int .i64 t452)) (fun _ hk=>hk.2) (.slice Ao12 t453.length co12)) (fun _ hk=>trivial)⟩
 have n2_:Aside0 (((w8.setCell ⟨gb458,0,none⟩ (.int .i64 t452)).setCell ⟨gb458,1,none⟩ (.slice Ao12 t453.length co12)).heap[gb444]?=some (.cells #[.int .i64 0,.slice none 0 0] 43 (0,0))):=⟨by (with_reducible repeat (first|refine blk_drewN ?_ _|refine blk_drew ?_|refine blk_alloc ?_ _));refine blk_far ?_ NB444_458.out _;(with_reducible repeat (first|refine blk_drewN ?_ _|refine blk_drew ?_|refine blk_alloc ?_ _));refine blk_far ?_ NB444_458.out _;(with_reducible repeat (first|refine blk_drewN ?_ _|refine blk_drew ?_|refine blk_alloc ?_ _));exact BK444.out⟩
 have n3_:Aside0 (((w8.setCell ⟨gb458,0,none⟩ (.int .i64 t452)).setCell ⟨gb458,1,none⟩ (.slice Ao12 t453.length co12)).heap[gb458]?=some (.cells #[.int .i64 t452,.slice Ao12 t453.length co12] 43 (0,0))):=⟨by (with_reducible repeat (first|refine blk_drewN ?_ _|refine blk_drew ?_|refine blk_alloc ?_ _));refine blk_put (cs:=#[.int .i64 t452,.slice none 0 0]) ?_ 1 _ rfl;(with_reducible repeat (first|refine blk_drewN ?_ _|refine blk_drew ?_|refine blk_alloc ?_ _));refine blk_put (cs:=#[.int .i64 0,.slice none 0 0]) ?_ 0 _ rfl;(with_reducible repeat (first|refine blk_drewN ?_ _|refine blk_drew ?_|refine blk_alloc ?_ _));exact BK458.out⟩
 have n4_:Aside0 (IsS142 w ((w8.setCell ⟨gb458,0,none⟩ (.int .i64 t452)).setCell ⟨gb458,1,none⟩ (.slice Ao12 t453.length co12)) g448 t445 t456 t457):=⟨by repeat (first|(with_reducible first|exact HI448.out|apply IsS142.alloc|apply IsS142.drewN|apply IsS142.drew|apply IsS142.set_1|apply IsS142.set_2|refine IsS142.far ?_ NB448_444.out _|refine IsS142.far ?_ NB448_458.out _)|exact HI448.out)⟩
 have n5_:Aside0 (Below w.heap.size w ((w8.setCell ⟨gb458,0,none⟩ (.int .i64 t452)).setCell ⟨gb458,1,none⟩ (.slice Ao12 t453.length co12))):=⟨by repeat (first|(with_reducible first|exact HB.out|apply below_alloc|apply pw_below_drewN|apply below_drew1|refine below_set ?_ (IsS142.ge HI448.out)|refine below_set ?_ GE444.out|refine below_set ?_ GE458.out)|exact HB.out)⟩
 (try clear HO451)
 (try clear HO455)
 (try clear BK444)
 (try clear BK458)
 (try clear HI448)
 (try clear HB)
 generalize ((w8.setCell ⟨gb458,0,none⟩ (.int .i64 t452)).setCell ⟨gb458,1,none⟩ (.slice Ao12 t453.length co12))=w13 at n0_ n1_ n2_ n3_ n4_ n5_ ⊢
 have HO451:=n0_
 have HO455:=n1_
 have BK444:=n2_
 have BK458:=n3_
 have HI448:=n4_
 have HB:=n5_
 clear n0_ n1_ n2_ n3_ n4_ n5_
 have n0_:=Aside0.mk (Kd.R_drew HO451.out)
 have n1_:=Aside0.mk (Kd.S_drew HO455.out)
 have n2_:=Aside0.mk (blk_drew BK444.out)
 have n3_:=Aside0.mk (blk_drew BK458.out)
 have n4_:=Aside0.mk (IsS142.drew HI448.out)
 have n5_:=Aside0.mk (below_drew1 HB.out)
 clear HO451
 clear HO455
 clear BK444
 clear BK458
 clear HI448
 clear HB
 have HO451:=n0_
 have HO455:=n1_
 have BK444:=n2_
 have BK458:=n3_
 have HI448:=n4_
 have HB:=n5_
 clear n0_ n1_ n2_ n3_ n4_ n5_
 refine start_ (n:=7) (S:=fun w'=>w'.cell? ⟨gb458,0,none⟩=some (.int .i64 t452)∧w'.cell? ⟨gb458,1,none⟩=some (.slice Ao12 t453.length co12)) (ds:=[]) #[false,false,false,false,false,false,false] (by kernel_rfl) rfl rfl ⟨(blk_cell BK458.out 0).trans rfl,(blk_cell BK458.out 1).trans rfl⟩ (fun hHeld=>?_)
 generalize w13.drew=w14 at HO451 HO455 BK444 BK458 HI448 HB hHeld ⊢
 refine pure_ (i:=1) (N:=some 16) (v:=?_) (a':=?_) #[false,true,false,false,false,false,false] rfl rfl (by kernel_rfl) (fun _ _ _ h=>h) (Or.inl ⟨by rfl,?_⟩) ?_ ?_
 rotate_left
 ·intro w'
  go_simp
  with_reducible rfl
 rotate_left
 ·simp only [Act.put,List.setIfInBounds_toArray,List.set_cons_zero,List.set_cons_succ,i64_w,i32_w]
  rfl
 refine pure_ (i:=2) (N:=some 17) (v:=?_) (a':=?_) #[false,true,true,false,false,false,false] rfl rfl (by kernel_rfl) (fun _ _ _ h=>h) (Or.inl ⟨by rfl,?_⟩) ?_ ?_
 rotate_left
 ·intro w'
  go_simp
  with_reducible rfl
 rotate_left
 ·simp only [Act.put,List.setIfInBounds_toArray,List.set_cons_zero,List.set_cons_succ,i64_w,i32_w]
  rfl
 refine take_ (i:=0) (N:=some 15) (v:=?_) (a':=?_) #[true,true,true,false,false,false,false] rfl rfl (by kernel_rfl) (fun _ _ _ h=>h) (Or.inl ⟨by rfl,?_⟩) hHeld ?_ ?_
 rotate_left
 ·rintro w' ⟨s0,s1⟩
  go_simp
  with_reducible rfl
 rotate_left
 ·simp only [Act.put,List.setIfInBounds_toArray,List.set_cons_zero,List.set_cons_succ,i64_w,i32_w]
  rfl
 refine one_ (i:=3) (N:=some 18) #[true,true,true,true,false,false,false] rfl rfl (by kernel_rfl) (by decide) (fun K hK=>?_)
 refine goes_ Try.func113 (by kernel_rfl) rfl #[.pointer (some ⟨g448,0,none⟩)] (by rfl) rfl rfl (by (try simp only [List.map_toArray,List.map_cons,List.map_nil]);first|done|rfl|(simp only [List.length_drop,List.length_take];rfl)) ?_
 with_reducible refine (spec_l3Any.calls g448 t445 t456 t457 t459 t460 t461 w _ ?side1 ?side2 A4.out).mono ?_
 (case side1=>repeat (first|(with_reducible first|exact HI448.out|apply IsS142.alloc|apply IsS142.drewN|apply IsS142.drew|apply IsS142.set_1|apply IsS142.set_2|refine IsS142.far ?_ NB448_444.out _|refine IsS142.far ?_ NB448_458.out _)|exact HI448.out))
 (case side2=>repeat (first|(with_reducible first|exact HB.out|apply below_alloc|apply pw_below_drewN|apply below_drew1|refine below_set ?_ (IsS142.ge HI448.out)|refine below_set ?_ GE444.out|refine below_set ?_ GE458.out)|exact HB.out))
 rintro e w15 ⟨rfl,hi,hb,hk⟩
 refine ⟨_,rfl,?_⟩
 have n0_:=Aside0.mk (KeepBut.blk hk (g':=gb444) (o:=.cells #[.int .i64 0,.slice none 0 0] 43 (0,0)) (by (with_reducible repeat (first|refine blk_drewN ?_ _|refine blk_drew ?_|refine blk_alloc ?_ _));exact BK444.out) NB444_448.out (by simp))
 have n1_:=Aside0.mk (Kd.R_mono (Kd.R_keep (IsS142.apart (show IsS142 w _ g448 t445 t456 t457 from by repeat (first|(with_reducible first|exact HI448.out|apply IsS142.alloc|apply IsS142.drewN|apply IsS142.drew|apply IsS142.set_1|apply IsS142.set_2|refine IsS142.far ?_ NB448_444.out _|refine IsS142.far ?_ NB448_458.out _)|exact HI448.out)) (by (with_reducible repeat (first|apply Kd.R_alloc|apply Kd.R_drewN|apply Kd.R_drew));exact HO451.out) (by decide)) hk (fun _ h=>h.2)) (fun _ h=>h.1))
 have n2_:=Aside0.mk (Kd.S_mono (Kd.S_keep (IsS142.apartS (show IsS142 w _ g448 t445 t456 t457 from by repeat (first|(with_reducible first|exact HI448.out|apply IsS142.alloc|apply IsS142.drewN|apply IsS142.drew|apply IsS142.set_1|apply IsS142.set_2|refine IsS142.far ?_ NB448_444.out _|refine IsS142.far ?_ NB448_458.out _)|exact HI448.out)) (by (with_reducible repeat (first|apply Kd.S_alloc|apply Kd.S_drewN|apply Kd.S_drew));exact HO455.out) (by decide)) hk (fun _ h=>h.2)) (fun _ h=>h.1))
 have n3_:=Aside0.mk (KeepBut.blk hk (g':=gb458) (o:=.cells #[.int .i64 t452,.slice Ao12 t453.length co12] 43 (0,0)) (by (with_reducible repeat (first|refine blk_drewN ?_ _|refine blk_drew ?_|refine blk_alloc ?_ _));exact BK458.out) NB458_448.out (by simp))
 have n4_:=Aside0.mk (hb)
 have n5_:=Aside0.mk (hi)
 clear BK444
 clear HO451
 clear HO455
 clear BK458
 clear HB
 clear HI448
 have BK444:=n0_
 have HO451:=n1_
 have HO455:=n2_
 have BK458:=n3_
 have HB:=n4_
 have HI448:=n5_
 clear n0_ n1_ n2_ n3_ n4_ n5_
 (try clear hb)
 (try clear hb2)
 (try clear hk)
 (try clear hi)
 refine hK.out _ _ ⟨(blk_cell BK458.out 0).trans rfl,(blk_cell BK458.out 1).trans rfl⟩ (fun hHeld=>?_)
 clear hK K
 refine norm_ (a':=?_) ?_ ?_
 rotate_left
 ·show Act.put _ (some 18) _=_
  simp only [Act.put,List.setIfInBounds_toArray,List.set_cons_zero,List.set_cons_succ,i64_w,i32_w]
  rfl
 refine one_ (i:=4) (N:=none) #[true,true,true,true,true,false,false] rfl rfl (by kernel_rfl) (by decide) (fun K hK=>?_)
 have hs16:w15.cell? ⟨gb444,0,none⟩=some (.int .i64 0):=(blk_cell BK444.out 0).trans rfl
 have hfs16:=blk_frozen BK444.out 0
 have hns16_1:=NB458_444.out
 have hms16_1:=NB444_458.out
 have hs17:w15.cell? ⟨gb444,1,none⟩=some (.slice none 0 0):=(blk_cell BK444.out 1).trans rfl
 have hfs17:=blk_frozen BK444.out 1
 have hns17_1:=NB458_444.out
 have hms17_1:=NB444_458.out
 refine skip_ (w1:=?_) (by rfl) rfl ?_ ?_
 rotate_left
 ·go_simp
  rfl
 refine hK.out _ _ ⟨((cell_far (p:=⟨gb444,_,none⟩) NB458_444.out _).trans (((cell_far (p:=⟨gb444,_,none⟩) NB458_444.out _).trans (hHeld.1)))),((cell_far (p:=⟨gb444,_,none⟩) NB458_444.out _).trans (((cell_far (p:=⟨gb444,_,none⟩) NB458_444.out _).trans (hHeld.2))))⟩ (fun hHeld=>?_)
 clear hK K
 refine pure_ (i:=5) (N:=some 3) (v:=?_) (a':=?_) #[true,true,true,true,true,true,false] rfl rfl (by kernel_rfl) (fun _ _ _ h=>h) (Or.inl ⟨by rfl,?_⟩) ?_ ?_
 rotate_left
 ·intro w'
  go_simp
  with_reducible rfl
 rotate_left
 ·simp only [Act.put,List.setIfInBounds_toArray,List.set_cons_zero,List.set_cons_succ,i64_w,i32_w]
  rfl
 refine pure_ (i:=6) (N:=some 4) (v:=?_) (a':=?_) #[true,true,true,true,true,true,true] rfl rfl (by kernel_rfl) (fun _ _ _ h=>h) (Or.inl ⟨by rfl,?_⟩) ?_ ?_
 rotate_left
 ·intro w'
  go_simp
  with_reducible rfl
 rotate_left
 ·simp only [Act.put,List.setIfInBounds_toArray,List.set_cons_zero,List.set_cons_succ,i64_w,i32_w]
  rfl
 refine done_ (by kernel_rfl) ?_
 try go_wp2
 refine bodyPost_ret (results_ctt rfl _ _ gb444 43 #[.int .i64 t452,.slice Ao12 t453.length co12] (0,0) _ rfl (by (with_reducible repeat (first|refine blk_drewN ?_ _|refine blk_drew ?_|refine blk_alloc ?_ _));refine blk_put (cs:=#[.int .i64 t452,.slice none 0 0]) ?_ 1 _ rfl;(with_reducible repeat (first|refine blk_drewN ?_ _|refine blk_drew ?_|refine blk_alloc ?_ _));refine blk_put (cs:=#[.int .i64 0,.slice none 0 0]) ?_ 0 _ rfl;(with_reducible repeat (first|refine blk_drewN ?_ _|refine blk_drew ?_|refine blk_alloc ?_ _));exact BK444.out) Try.underlying43 rfl (by kernel_rfl)) rfl ?_
 exact ⟨_,_,by first|rfl|(simp [errW_none,errW_some] <;> rfl)|(simp [*,errW_none,errW_some] <;> rfl),by (with_reducible repeat (first|apply Kd.S_alloc|apply Kd.S_drewN|apply Kd.S_drew));exact Kd.S_mono (Kd.S_far (p:=⟨gb444,1,none⟩) (Kd.S_far (p:=⟨gb444,0,none⟩) (Kd.S_types HO455.out BK444.out (by decide)) (fun _ hk=>hk.2) (.int .i64 t452)) (fun _ hk=>hk.2) (.slice Ao12 t453.length co12)) (fun _ hk=>trivial),by (with_reducible repeat (first|apply Kd.R_alloc|apply Kd.R_drewN|apply Kd.R_drew));exact Kd.R_mono (Kd.R_far (p:=⟨gb444,1,none⟩) (Kd.R_far (p:=⟨gb444,0,none⟩) (Kd.R_types HO451.out BK444.out (by decide)) (fun _ hk=>hk.2) (.int .i64 t452)) (fun _ hk=>hk.2) (.slice Ao12 t453.length co12)) (fun _ hk=>trivial),by repeat (first|(with_reducible first|exact HB.out|apply below_alloc|apply pw_below_drewN|apply below_drew1|refine below_set ?_ (IsS142.ge HI448.out)|refine below_set ?_ GE444.out|refine below_set ?_ GE458.out)|exact HB.out)⟩
end Go.Proofs.Ytbhllgifciaepaa.PFnPlaces
