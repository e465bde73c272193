/- Trimmed by a program of this session (trim.py). Not trusted: Lean checks it. -/
import Derived.Test.YtbhllgifciaepaaTLPlacesPFnPlacesx0
import Derived.Test.YtbhllgifciaepaaTLPlacesPFnPlacesx7
import Derived.Test.YtbhllgifciaepaaTLPlacesPFnPlacesx9
import Derived.Test.YtbhllgifciaepaaTLPlacesPFnPlacesx10
namespace Go.Proofs.Ytbhllgifciaepaa.PFnPlaces
open Go.RowKit Go.Proofs.YtbhllgifciaepaaW.PrintWords Go.Proofs.YtbhllgifciaepaaW.PrintLast Go.Proofs.YtbhllgifciaepaaW.PrintMore
attribute [local go_sem] max2_int min2_int max_two min_two max_three min_three max_four min_four
set_option linter.unusedVariables false
set_option linter.unusedSimpArgs false
def spec_l5Any.f (k:Nat) (s0_0:List Int) (s0_1:Int) (s0_2:Int):Option ((List (S76)) × Int × (List (S29)) × Int × Int):=(spec_l5Draw.f k s0_0 s0_1 s0_2).bind fun bt374=>((spec_l1Below.f s0_0 bt374.2.2.2.1 bt374.2.2.2.2 (bt374.2.2.1.length:Int)).bind fun bt384=>((spec_l1Below.f s0_0 bt384.2.1 bt384.2.2 10).bind fun bt387=>(if bt387.1=0 then ((spec_l1Int.f s0_0 bt387.2.1 bt387.2.2 (([0,1,2,6]:List Int))).bind fun bt393=>(some (bt374.1,bt393.1,bt374.2.2.1,bt393.2.1,bt393.2.2))) else (if bt387.1=1 then (if 0≤bt384.1 then (if bt384.1 < (bt374.2.2.1.length:Int) then ((spec_l1Below.f s0_0 bt387.2.1 bt387.2.2 9).bind fun bt397=>(if ((rd_T29 bt374.2.2.1 bt384.1).f0).length < 17592186044416 then (some (bt374.1,bt374.2.1,(bt374.2.2.1.set (bt384.1:Int).toNat (⟨(((rd_T29 bt374.2.2.1 bt384.1).f0) ++ [bt397.1])⟩:S29)),bt397.2.1,bt397.2.2)) else (none))) else (none)) else (none)) else (if bt387.1=2 then (if 0≤bt384.1 then (if bt384.1 < (bt374.2.2.1.length:Int) then ((spec_l1Below.f s0_0 bt387.2.1 bt387.2.2 9).bind fun bt405=>(if 0 < (((rd_T29 bt374.2.2.1 bt384.1).f0).length:Int) then (some (bt374.1,bt374.2.1,(bt374.2.2.1.set (bt384.1:Int).toNat (⟨(((rd_T29 bt374.2.2.1 bt384.1).f0).set (0:Int).toNat bt405.1)⟩:S29)),bt405.2.1,bt405.2.2)) else (none))) else (none)) else (none)) else (if bt387.1=3 then ((spec_l4Any.f k s0_0 bt387.2.1 bt387.2.2).bind fun bt411=>(some (bt411.1,bt374.2.1,bt374.2.2.1,bt411.2.1,bt411.2.2))) else (if bt387.1=4 then (if 0≤(bt374.2.2.1.length:Int) then (some (bt374.1,bt374.2.1,(bt374.2.2.1.take (0:Int).toNat),bt387.2.1,bt387.2.2)) else (none)) else (some (bt374.1,bt374.2.1,bt374.2.2.1,bt387.2.1,bt387.2.2)))))))))
def spec_l5Any.T7:Bool × List (List Nat × List Nat):=(true,[([],[]),([0],[0]),([],[]),([],[]),([3],[3]),([],[]),([4,5],[4,5]),([6],[6]),([7],[7]),([],[]),([9],[9]),([10],[10]),([8,11,10],[8,11]),([1,2,0,1,2,3,4,5,6,7,8,9,10,11,12],[1,2]),([13,0,1,2,3,4,5,6,7,8,9,10,11,12],[13]),([14,12,12,0,1,2,3,4,5,6,7,8,9,10,11,12],[12,14])])
def spec_l5Any.B7:List Nat:=[0,1,0,0,8,0,56,120,248,0,512,1536,4088,8191,16383,32767]
theorem spec_l5Any.tab7:rtab .any (opsOf Try.f104 7)=spec_l5Any.T7:=by kernel_rfl
theorem spec_l5Any.bits7:waitsOk spec_l5Any.T7.2 spec_l5Any.B7=true:=by kernel_rfl
def spec_l5Any.T9:Bool × List (List Nat × List Nat):=(true,[([],[]),([0],[0]),([],[]),([1,2],[1,2]),([3],[3]),([4],[4]),([],[]),([6],[6]),([5,0,1,2,3,4,5,6,7],[5]),([8,7,7,0,1,2,3,4,5,6,7],[7,8])])
def spec_l5Any.B9:List Nat:=[0,1,0,7,15,31,0,64,255,511]
theorem spec_l5Any.tab9:rtab .any (opsOf Try.f104 9)=spec_l5Any.T9:=by kernel_rfl
theorem spec_l5Any.bits9:waitsOk spec_l5Any.T9.2 spec_l5Any.B9=true:=by kernel_rfl
set_option maxHeartbeats 8000000 in
set_option maxRecDepth 100000 in
theorem spec_l5Any.calls (k:Nat) (g:Nat) (s0_0:List Int) (s0_1:Int) (s0_2:Int) (r1:List (S76)) (r2:Int) (r3:List (S29)) (r4:Int) (r5:Int) (w0 w:World) (hI:IsS142 w0 w g s0_0 s0_1 s0_2) (hB:Below w0.heap.size w0 w) (h:spec_l5Any.f k s0_0 s0_1 s0_2=some (r1,r2,r3,r4,r5)) :
  Calls Try.prog 104 #[.pointer (some ⟨g,0,none⟩)] w fun e w'=>∃ v0_ v2_:Value,e = .returned (.tuple #[v0_,.agg #[.int .i64 r2,v2_]])∧Kd.R k76 76 w' w.heap.size (fun _=>True) v0_ r1∧Kd.S k29 29 w' w.heap.size (fun _=>True) v2_ r3∧IsS142 w0 w' g s0_0 r4 r5∧Below w0.heap.size w0 w' ∧ KeepBut w w' g none:=by
 have hu43:=Try.underlying43
 have HI0:=Aside0.mk hI
 have HK:=Aside0.mk (KeepBut.refl w g none)
 have HL:=Aside0.mk hB.size
 clear hI
 have HW0:=Aside0.mk hB.size
 have HB:=Aside0.mk hB
 clear hB
 have H:((spec_l5Draw.f k s0_0 s0_1 s0_2).bind fun bt374=>((spec_l1Below.f s0_0 bt374.2.2.2.1 bt374.2.2.2.2 (bt374.2.2.1.length:Int)).bind fun bt384=>((spec_l1Below.f s0_0 bt384.2.1 bt384.2.2 10).bind fun bt387=>(if bt387.1=0 then ((spec_l1Int.f s0_0 bt387.2.1 bt387.2.2 (([0,1,2,6]:List Int))).bind fun bt393=>(some (bt374.1,bt393.1,bt374.2.2.1,bt393.2.1,bt393.2.2))) else (if bt387.1=1 then (if 0≤bt384.1 then (if bt384.1 < (bt374.2.2.1.length:Int) then ((spec_l1Below.f s0_0 bt387.2.1 bt387.2.2 9).bind fun bt397=>(if ((rd_T29 bt374.2.2.1 bt384.1).f0).length < 17592186044416 then (some (bt374.1,bt374.2.1,(bt374.2.2.1.set (bt384.1:Int).toNat (⟨(((rd_T29 bt374.2.2.1 bt384.1).f0) ++ [bt397.1])⟩:S29)),bt397.2.1,bt397.2.2)) else (none))) else (none)) else (none)) else (if bt387.1=2 then (if 0≤bt384.1 then (if bt384.1 < (bt374.2.2.1.length:Int) then ((spec_l1Below.f s0_0 bt387.2.1 bt387.2.2 9).bind fun bt405=>(if 0 < (((rd_T29 bt374.2.2.1 bt384.1).f0).length:Int) then (some (bt374.1,bt374.2.1,(bt374.2.2.1.set (bt384.1:Int).toNat (⟨(((rd_T29 bt374.2.2.1 bt384.1).f0).set (0:Int).toNat bt405.1)⟩:S29)),bt405.2.1,bt405.2.2)) else (none))) else (none)) else (none)) else (if bt387.1=3 then ((spec_l4Any.f k s0_0 bt387.2.1 bt387.2.2).bind fun bt411=>(some (bt411.1,bt374.2.1,bt374.2.2.1,bt411.2.1,bt411.2.2))) else (if bt387.1=4 then (if 0≤(bt374.2.2.1.length:Int) then (some (bt374.1,bt374.2.1,(bt374.2.2.1.take (0:Int).toNat),bt387.2.1,bt387.2.2)) else (none)) else (some (bt374.1,bt374.2.1,bt374.2.2.1,bt387.2.1,bt387.2.2))))))))))=some (r1,r2,r3,r4,r5):=h
 clear h
 replace H:=Option.bind_eq_some_iff.mp H
 obtain ⟨⟨t374,t377,t378,t381,t382⟩,A20,H⟩:=H
 replace H:((spec_l1Below.f s0_0 t381 t382 (t378.length:Int)).bind fun bt384=>((spec_l1Below.f s0_0 bt384.2.1 bt384.2.2 10).bind fun bt387=>(if bt387.1=0 then ((spec_l1Int.f s0_0 bt387.2.1 bt387.2.2 (([0,1,2,6]:List Int))).bind fun bt393=>(some (t374,bt393.1,t378,bt393.2.1,bt393.2.2))) else (if bt387.1=1 then (if 0≤bt384.1 then (if bt384.1 < (t378.length:Int) then ((spec_l1Below.f s0_0 bt387.2.1 bt387.2.2 9).bind fun bt397=>(if ((rd_T29 t378 bt384.1).f0).length < 17592186044416 then (some (t374,t377,(t378.set (bt384.1:Int).toNat (⟨(((rd_T29 t378 bt384.1).f0) ++ [bt397.1])⟩:S29)),bt397.2.1,bt397.2.2)) else (none))) else (none)) else (none)) else (if bt387.1=2 then (if 0≤bt384.1 then (if bt384.1 < (t378.length:Int) then ((spec_l1Below.f s0_0 bt387.2.1 bt387.2.2 9).bind fun bt405=>(if 0 < (((rd_T29 t378 bt384.1).f0).length:Int) then (some (t374,t377,(t378.set (bt384.1:Int).toNat (⟨(((rd_T29 t378 bt384.1).f0).set (0:Int).toNat bt405.1)⟩:S29)),bt405.2.1,bt405.2.2)) else (none))) else (none)) else (none)) else (if bt387.1=3 then ((spec_l4Any.f k s0_0 bt387.2.1 bt387.2.2).bind fun bt411=>(some (bt411.1,t377,t378,bt411.2.1,bt411.2.2))) else (if bt387.1=4 then (if 0≤(t378.length:Int) then (some (t374,t377,(t378.take (0:Int).toNat),bt387.2.1,bt387.2.2)) else (none)) else (some (t374,t377,t378,bt387.2.1,bt387.2.2)))))))))=some (r1,r2,r3,r4,r5):=H
 have A2:=Aside0.mk A20
 clear A20
 replace H:=Option.bind_eq_some_iff.mp H
 obtain ⟨⟨t384,t385,t386⟩,A30,H⟩:=H
 replace H:((spec_l1Below.f s0_0 t385 t386 10).bind fun bt387=>(if bt387.1=0 then ((spec_l1Int.f s0_0 bt387.2.1 bt387.2.2 (([0,1,2,6]:List Int))).bind fun bt393=>(some (t374,bt393.1,t378,bt393.2.1,bt393.2.2))) else (if bt387.1=1 then (if 0≤t384 then (if t384 < (t378.length:Int) then ((spec_l1Below.f s0_0 bt387.2.1 bt387.2.2 9).bind fun bt397=>(if ((rd_T29 t378 t384).f0).length < 17592186044416 then (some (t374,t377,(t378.set (t384:Int).toNat (⟨(((rd_T29 t378 t384).f0) ++ [bt397.1])⟩:S29)),bt397.2.1,bt397.2.2)) else (none))) else (none)) else (none)) else (if bt387.1=2 then (if 0≤t384 then (if t384 < (t378.length:Int) then ((spec_l1Below.f s0_0 bt387.2.1 bt387.2.2 9).bind fun bt405=>(if 0 < (((rd_T29 t378 t384).f0).length:Int) then (some (t374,t377,(t378.set (t384:Int).toNat (⟨(((rd_T29 t378 t384).f0).set (0:Int).toNat bt405.1)⟩:S29)),bt405.2.1,bt405.2.2)) else (none))) else (none)) else (none)) else (if bt387.1=3 then ((spec_l4Any.f k s0_0 bt387.2.1 bt387.2.2).bind fun bt411=>(some (bt411.1,t377,t378,bt411.2.1,bt411.2.2))) else (if bt387.1=4 then (if 0≤(t378.length:Int) then (some (t374,t377,(t378.take (0:Int).toNat),bt387.2.1,bt387.2.2)) else (none)) else (some (t374,t377,t378,bt387.2.1,bt387.2.2))))))))=some (r1,r2,r3,r4,r5):=H
 have A3:=Aside0.mk A30
 clear A30
 replace H:=Option.bind_eq_some_iff.mp H
 obtain ⟨⟨t387,t388,t389⟩,A40,H⟩:=H
 replace H:(if t387=0 then ((spec_l1Int.f s0_0 t388 t389 (([0,1,2,6]:List Int))).bind fun bt393=>(some (t374,bt393.1,t378,bt393.2.1,bt393.2.2))) else (if t387=1 then (if 0≤t384 then (if t384 < (t378.length:Int) then ((spec_l1Below.f s0_0 t388 t389 9).bind fun bt397=>(if ((rd_T29 t378 t384).f0).length < 17592186044416 then (some (t374,t377,(t378.set (t384:Int).toNat (⟨(((rd_T29 t378 t384).f0) ++ [bt397.1])⟩:S29)),bt397.2.1,bt397.2.2)) else (none))) else (none)) else (none)) else (if t387=2 then (if 0≤t384 then (if t384 < (t378.length:Int) then ((spec_l1Below.f s0_0 t388 t389 9).bind fun bt405=>(if 0 < (((rd_T29 t378 t384).f0).length:Int) then (some (t374,t377,(t378.set (t384:Int).toNat (⟨(((rd_T29 t378 t384).f0).set (0:Int).toNat bt405.1)⟩:S29)),bt405.2.1,bt405.2.2)) else (none))) else (none)) else (none)) else (if t387=3 then ((spec_l4Any.f k s0_0 t388 t389).bind fun bt411=>(some (bt411.1,t377,t378,bt411.2.1,bt411.2.2))) else (if t387=4 then (if 0≤(t378.length:Int) then (some (t374,t377,(t378.take (0:Int).toNat),t388,t389)) else (none)) else (some (t374,t377,t378,t388,t389)))))))=some (r1,r2,r3,r4,r5):=H
 have A4:=Aside0.mk A40
 clear A40
 by_cases c5:t387=0
 ·rw [if_pos c5] at H
  have c5b0:(t387 == 0)=true:=beq_iff_eq.mpr c5
  have c5b1:(t387 != 0)=false:=bne_eq_false_iff_eq.mpr c5
  clear c5
  obtain ⟨y390,hy390⟩ : ∃ y_:List Int,y_=(([0,1,2,6]:List Int)):=⟨_,rfl⟩
  replace H:((spec_l1Int.f s0_0 t388 t389 y390).bind fun bt393=>(some (t374,bt393.1,t378,bt393.2.1,bt393.2.2)))=some (r1,r2,r3,r4,r5):=by first|(rw [hy390];with_reducible exact H)|(have H2_:=(Option.bind_some _ _).symm.trans H;rw [hy390];with_reducible exact H2_)|(have H2_:=(Option.bind_some _ _).symm.trans H;with_reducible exact H2_)|with_reducible exact H|(rw [hy390];exact H)|exact H
  have Ny390:=Aside0.mk hy390
  clear hy390
  replace H:=Option.bind_eq_some_iff.mp H
  obtain ⟨⟨t393,t394,t395⟩,A60,H⟩:=H
  replace H:(some (t374,t393,t378,t394,t395))=some (r1,r2,r3,r4,r5):=H
  have A6:=Aside0.mk A60
  clear A60
  simp only [Option.some.injEq,Prod.mk.injEq] at H
  obtain ⟨rfl,rfl,rfl,rfl,rfl⟩:=H
  go_enter Try.func104,Try.ntmps104
  try go_wp2_with (first|((with_reducible refine gate_dst (N:=3) rfl ?_);refine box_event ?hg (N:=3) ?hd (cs:=#[.int .i64 0,.slice none 0 0]) (t:=43) ?hr ?_;(case hd=>rfl);(case hg=>rfl);(case hr=>first|(go_simp;done)|(go_simp;rfl));intro gb373 hg w7 hbox hb;have n0_:=Aside0.mk (IsS142.below (by repeat (first|(with_reducible first|exact HI0.out|apply IsS142.alloc|apply IsS142.drewN|apply IsS142.drew|apply IsS142.set_1|apply IsS142.set_2)|exact HI0.out)) hb);have n1_:=Aside0.mk (KeepBut.trans (by repeat (first|(with_reducible first|exact HK.out|apply KeepBut.set_|apply keep_drewN|apply keep_drew|apply keep_alloc)|exact HK.out)) (KeepBut.of_below hb g none) (.inl rfl));have n2_:=Aside0.mk (below_step (by repeat (first|(with_reducible first|exact HB.out|apply below_alloc|apply pw_below_drewN|apply below_drew1|refine below_set ?_ (IsS142.ge HI0.out))|exact HB.out)) hb);have n3_:=Aside0.mk (hbox);have n4_:=Aside0.mk ((by rw [hg];exact (keep_size (w:=w) (g:=g) (row:=none) (by repeat (first|(with_reducible first|exact HK.out|apply KeepBut.set_|apply keep_drewN|apply keep_drew|apply keep_alloc)|exact HK.out))):w.heap.size≤gb373));have n5_:=Aside0.mk ((Nat.le_trans HW0.out (by rw [hg];exact (keep_size (w:=w) (g:=g) (row:=none) (by repeat (first|(with_reducible first|exact HK.out|apply KeepBut.set_|apply keep_drewN|apply keep_drew|apply keep_alloc)|exact HK.out))):w.heap.size≤gb373):w0.heap.size≤gb373));have n6_:=Aside0.mk ((by rw [hg];exact Nat.ne_of_lt (IsS142.lt (show IsS142 w0 _ g s0_0 s0_1 s0_2 from by repeat (first|(with_reducible first|exact HI0.out|apply IsS142.alloc|apply IsS142.drewN|apply IsS142.drew|apply IsS142.set_1|apply IsS142.set_2)|exact HI0.out))):g ≠ gb373));have n7_:=Aside0.mk ((by rw [hg];exact Nat.ne_of_gt (IsS142.lt (show IsS142 w0 _ g s0_0 s0_1 s0_2 from by repeat (first|(with_reducible first|exact HI0.out|apply IsS142.alloc|apply IsS142.drewN|apply IsS142.drew|apply IsS142.set_1|apply IsS142.set_2)|exact HI0.out))):gb373 ≠ g));clear HI0;clear HK;clear HB;have HI0:=n0_;have HK:=n1_;have HB:=n2_;have BK373:=n3_;have GW373:=n4_;have GE373:=n5_;have NB0_373:=n6_;have NB373_0:=n7_;clear n0_ n1_ n2_ n3_ n4_ n5_ n6_ n7_;clear hb hbox hg)|((with_reducible refine gate_callee (f:=123) rfl ?_);refine goesL_ (some 9) rfl rfl Try.func123 (by kernel_rfl) rfl #[.pointer (some ⟨g,0,none⟩)] rfl (by (try simp only [List.map_toArray,List.map_cons,List.map_nil]);first|done|rfl|(simp only [List.length_drop,List.length_take];rfl)) ?_;(with_reducible refine (spec_l5Draw.calls k g s0_0 s0_1 s0_2 t374 t377 t378 t381 t382 w0 _ ?side1 ?side2 A2.out).mono ?_);(case side1=>repeat (first|(with_reducible first|exact HI0.out|apply IsS142.alloc|apply IsS142.drewN|apply IsS142.drew|apply IsS142.set_1|apply IsS142.set_2|refine IsS142.far ?_ NB0_373.out _)|exact HI0.out));(case side2=>repeat (first|(with_reducible first|exact HB.out|apply below_alloc|apply pw_below_drewN|apply below_drew1|refine below_set ?_ (IsS142.ge HI0.out)|refine below_set ?_ GE373.out)|exact HB.out));rintro e w8 ⟨v375,v379,rfl,ho0,ho1,hi,hb,hk⟩;refine ⟨_,rfl,?_⟩;have n0_:=Aside0.mk (KeepBut.blk hk (g':=gb373) (o:=.cells #[.int .i64 0,.slice none 0 0] 43 (0,0)) (by (with_reducible repeat (first|refine blk_drewN ?_ _|refine blk_drew ?_|refine blk_alloc ?_ _));exact BK373.out) NB373_0.out (by simp));have n1_:=Aside0.mk (Kd.R_lower ho0 (keep_size (w:=w) (g:=g) (row:=none) (by repeat (first|(with_reducible first|exact HK.out|apply KeepBut.set_|apply keep_drewN|apply keep_drew|apply keep_alloc|refine keep_far ?_ GW373.out _)|exact HK.out))));have n2_:=Aside0.mk (Kd.S_lower ho1 (keep_size (w:=w) (g:=g) (row:=none) (by repeat (first|(with_reducible first|exact HK.out|apply KeepBut.set_|apply keep_drewN|apply keep_drew|apply keep_alloc|refine keep_far ?_ GW373.out _)|exact HK.out))));have n3_:=Aside0.mk (KeepBut.trans (by repeat (first|(with_reducible first|exact HK.out|apply KeepBut.set_|apply keep_drewN|apply keep_drew|apply keep_alloc|refine keep_far ?_ GW373.out _)|exact HK.out)) hk (.inl rfl));have n4_:=Aside0.mk (hb);have n5_:=Aside0.mk (hi);clear BK373;clear HK;clear HB;clear HI0;have BK373:=n0_;have HO376:=n1_;have HO380:=n2_;have HK:=n3_;have HB:=n4_;have HI0:=n5_;clear n0_ n1_ n2_ n3_ n4_ n5_;(try clear hb);(try clear hb2);(try clear hk);(try clear hi);(try clear ho0);(try clear ho1))|((with_reducible refine gate_dst (N:=5) rfl ?_);refine box_event ?hg (N:=5) ?hd (cs:=#[.int .i64 0,.slice none 0 0]) (t:=43) ?hr ?_;(case hd=>rfl);(case hg=>rfl);(case hr=>first|(go_simp;done)|(go_simp;rfl));intro gb383 hg w9 hbox hb;have n0_:=Aside0.mk (Kd.R_below (by (with_reducible repeat (first|apply Kd.R_alloc|apply Kd.R_drewN|apply Kd.R_drew));exact HO376.out) hb);have n1_:=Aside0.mk (Kd.S_below (by (with_reducible repeat (first|apply Kd.S_alloc|apply Kd.S_drewN|apply Kd.S_drew));exact HO380.out) hb);have n2_:=Aside0.mk (IsS142.below (by repeat (first|(with_reducible first|exact HI0.out|apply IsS142.alloc|apply IsS142.drewN|apply IsS142.drew|apply IsS142.set_1|apply IsS142.set_2|refine IsS142.far ?_ NB0_373.out _)|exact HI0.out)) hb);have n3_:=Aside0.mk (blk_below (g:=gb373) (o:=.cells #[.int .i64 0,.slice none 0 0] 43 (0,0)) (by (with_reducible repeat (first|refine blk_drewN ?_ _|refine blk_drew ?_|refine blk_alloc ?_ _));exact BK373.out) hb);have n4_:=Aside0.mk (KeepBut.trans (by repeat (first|(with_reducible first|exact HK.out|apply KeepBut.set_|apply keep_drewN|apply keep_drew|apply keep_alloc|refine keep_far ?_ GW373.out _)|exact HK.out)) (KeepBut.of_below hb g none) (.inl rfl));have n5_:=Aside0.mk (below_step (by repeat (first|(with_reducible first|exact HB.out|apply below_alloc|apply pw_below_drewN|apply below_drew1|refine below_set ?_ (IsS142.ge HI0.out)|refine below_set ?_ GE373.out)|exact HB.out)) hb);have n6_:=Aside0.mk (hbox);have n7_:=Aside0.mk ((by rw [hg];exact (keep_size (w:=w) (g:=g) (row:=none) (by repeat (first|(with_reducible first|exact HK.out|apply KeepBut.set_|apply keep_drewN|apply keep_drew|apply keep_alloc|refine keep_far ?_ GW373.out _)|exact HK.out))):w.heap.size≤gb383));have n8_:=Aside0.mk ((Nat.le_trans HW0.out (by rw [hg];exact (keep_size (w:=w) (g:=g) (row:=none) (by repeat (first|(with_reducible first|exact HK.out|apply KeepBut.set_|apply keep_drewN|apply keep_drew|apply keep_alloc|refine keep_far ?_ GW373.out _)|exact HK.out))):w.heap.size≤gb383):w0.heap.size≤gb383));have n9_:=Aside0.mk ((by rw [hg];exact Nat.ne_of_lt (blk_lt (g:=gb373) (o:=.cells #[.int .i64 0,.slice none 0 0] 43 (0,0)) (by (with_reducible repeat (first|refine blk_drewN ?_ _|refine blk_drew ?_|refine blk_alloc ?_ _));exact BK373.out)):gb373 ≠ gb383));have n10_:=Aside0.mk ((by rw [hg];exact Nat.ne_of_gt (blk_lt (g:=gb373) (o:=.cells #[.int .i64 0,.slice none 0 0] 43 (0,0)) (by (with_reducible repeat (first|refine blk_drewN ?_ _|refine blk_drew ?_|refine blk_alloc ?_ _));exact BK373.out)):gb383 ≠ gb373));have n11_:=Aside0.mk ((by rw [hg];exact Nat.ne_of_lt (IsS142.lt (show IsS142 w0 _ g s0_0 t381 t382 from by repeat (first|(with_reducible first|exact HI0.out|apply IsS142.alloc|apply IsS142.drewN|apply IsS142.drew|apply IsS142.set_1|apply IsS142.set_2|refine IsS142.far ?_ NB0_373.out _)|exact HI0.out))):g ≠ gb383));have n12_:=Aside0.mk ((by rw [hg];exact Nat.ne_of_gt (IsS142.lt (show IsS142 w0 _ g s0_0 t381 t382 from by repeat (first|(with_reducible first|exact HI0.out|apply IsS142.alloc|apply IsS142.drewN|apply IsS142.drew|apply IsS142.set_1|apply IsS142.set_2|refine IsS142.far ?_ NB0_373.out _)|exact HI0.out))):gb383 ≠ g));clear HO376;clear HO380;clear HI0;clear BK373;clear HK;clear HB;have HO376:=n0_;have HO380:=n1_;have HI0:=n2_;have BK373:=n3_;have HK:=n4_;have HB:=n5_;have BK383:=n6_;have GW383:=n7_;have GE383:=n8_;have NB373_383:=n9_;have NB383_373:=n10_;have NB0_383:=n11_;have NB383_0:=n12_;clear n0_ n1_ n2_ n3_ n4_ n5_ n6_ n7_ n8_ n9_ n10_ n11_ n12_;clear hb hbox hg;have hnb10:=NB383_373.out;have hnc10:=NB373_383.out;have hnb11:=NB383_0.out;have hnc11:=NB0_383.out;have hcz12_0:w9.cell? ⟨gb383,0,none⟩=some (.int .i64 0):=(blk_cell BK383.out 0).trans rfl;have hcz12_1:w9.cell? ⟨gb383,1,none⟩=some (.slice none 0 0):=(blk_cell BK383.out 1).trans rfl;have hfz12_0:=blk_frozen BK383.out 0;have hfz12_1:=blk_frozen BK383.out 1;obtain ⟨Ao13,co13,eo13⟩:=Kd.S_slice HO380.out;subst eo13)|((with_reducible refine gate_callee (f:=105) rfl ?_);refine goesL_ (some 16) rfl rfl Try.func105 (by kernel_rfl) rfl #[.pointer (some ⟨g,0,none⟩),.int .i64 (t378.length:Int)] rfl (by (try simp only [List.map_toArray,List.map_cons,List.map_nil]);first|done|rfl|(simp only [List.length_drop,List.length_take];rfl)) ?_;(with_reducible refine (spec_l1Below.calls g s0_0 t381 t382 (t378.length:Int) t384 t385 t386 w0 _ ?side1 ?side2 A3.out).mono ?_);(case side1=>repeat (first|(with_reducible first|exact HI0.out|apply IsS142.alloc|apply IsS142.drewN|apply IsS142.drew|apply IsS142.set_1|apply IsS142.set_2|refine IsS142.far ?_ NB0_373.out _|refine IsS142.far ?_ NB0_383.out _)|exact HI0.out));(case side2=>repeat (first|(with_reducible first|exact HB.out|apply below_alloc|apply pw_below_drewN|apply below_drew1|refine below_set ?_ (IsS142.ge HI0.out)|refine below_set ?_ GE373.out|refine below_set ?_ GE383.out)|exact HB.out));rintro e w14 ⟨rfl,hi,hb,hk⟩;refine ⟨_,rfl,?_⟩;have n0_:=Aside0.mk (KeepBut.blk hk (g':=gb373) (o:=.cells #[.int .i64 0,.slice none 0 0] 43 (0,0)) (by (with_reducible repeat (first|refine blk_drewN ?_ _|refine blk_drew ?_|refine blk_alloc ?_ _));refine blk_far ?_ NB373_383.out _;(with_reducible repeat (first|refine blk_drewN ?_ _|refine blk_drew ?_|refine blk_alloc ?_ _));refine blk_far ?_ NB373_383.out _;(with_reducible repeat (first|refine blk_drewN ?_ _|refine blk_drew ?_|refine blk_alloc ?_ _));exact BK373.out) NB373_0.out (by simp));have n1_:=Aside0.mk (Kd.R_mono (Kd.R_keep (IsS142.apart (show IsS142 w0 _ g s0_0 t381 t382 from by repeat (first|(with_reducible first|exact HI0.out|apply IsS142.alloc|apply IsS142.drewN|apply IsS142.drew|apply IsS142.set_1|apply IsS142.set_2|refine IsS142.far ?_ NB0_373.out _|refine IsS142.far ?_ NB0_383.out _)|exact HI0.out)) (by (with_reducible repeat (first|apply Kd.R_alloc|apply Kd.R_drewN|apply Kd.R_drew));exact (Kd.R_mono (Kd.R_far (p:=⟨gb383,1,none⟩) (Kd.R_far (p:=⟨gb383,0,none⟩) (Kd.R_types HO376.out BK383.out (by decide)) (fun _ hk=>hk.2) (.int .i64 t377)) (fun _ hk=>hk.2) (.slice Ao13 t378.length co13)) (fun _ h_=>h_.1))) (by decide)) hk (fun _ h=>h.2)) (fun _ h=>h.1));have n2_:=Aside0.mk (Kd.S_mono (Kd.S_keep (IsS142.apartS (show IsS142 w0 _ g s0_0 t381 t382 from by repeat (first|(with_reducible first|exact HI0.out|apply IsS142.alloc|apply IsS142.drewN|apply IsS142.drew|apply IsS142.set_1|apply IsS142.set_2|refine IsS142.far ?_ NB0_373.out _|refine IsS142.far ?_ NB0_383.out _)|exact HI0.out)) (by (with_reducible repeat (first|apply Kd.S_alloc|apply Kd.S_drewN|apply Kd.S_drew));exact (Kd.S_mono (Kd.S_far (p:=⟨gb383,1,none⟩) (Kd.S_far (p:=⟨gb383,0,none⟩) (Kd.S_types HO380.out BK383.out (by decide)) (fun _ hk=>hk.2) (.int .i64 t377)) (fun _ hk=>hk.2) (.slice Ao13 t378.length co13)) (fun _ h_=>h_.1))) (by decide)) hk (fun _ h=>h.2)) (fun _ h=>h.1));have n3_:=Aside0.mk (KeepBut.blk hk (g':=gb383) (o:=.cells #[.int .i64 t377,.slice Ao13 t378.length co13] 43 (0,0)) (by (with_reducible repeat (first|refine blk_drewN ?_ _|refine blk_drew ?_|refine blk_alloc ?_ _));refine blk_put (cs:=#[.int .i64 t377,.slice none 0 0]) ?_ 1 _ rfl;(with_reducible repeat (first|refine blk_drewN ?_ _|refine blk_drew ?_|refine blk_alloc ?_ _));refine blk_put (cs:=#[.int .i64 0,.slice none 0 0]) ?_ 0 _ rfl;(with_reducible repeat (first|refine blk_drewN ?_ _|refine blk_drew ?_|refine blk_alloc ?_ _));exact BK383.out) NB383_0.out (by simp));have n4_:=Aside0.mk (KeepBut.trans (by repeat (first|(with_reducible first|exact HK.out|apply KeepBut.set_|apply keep_drewN|apply keep_drew|apply keep_alloc|refine keep_far ?_ GW373.out _|refine keep_far ?_ GW383.out _)|exact HK.out)) hk (.inl rfl));have n5_:=Aside0.mk (hb);have n6_:=Aside0.mk (hi);clear BK373;clear HO376;clear HO380;clear BK383;clear HK;clear HB;clear HI0;have BK373:=n0_;have HO376:=n1_;have HO380:=n2_;have BK383:=n3_;have HK:=n4_;have HB:=n5_;have HI0:=n6_;clear n0_ n1_ n2_ n3_ n4_ n5_ n6_;(try clear hb);(try clear hb2);(try clear hk);(try clear hi))|((with_reducible refine gate_callee (f:=105) rfl ?_);refine goesL_ (some 18) rfl rfl Try.func105 (by kernel_rfl) rfl #[.pointer (some ⟨g,0,none⟩),.int .i64 10] rfl (by (try simp only [List.map_toArray,List.map_cons,List.map_nil]);first|done|rfl|(simp only [List.length_drop,List.length_take];rfl)) ?_;(with_reducible refine (spec_l1Below.calls g s0_0 t385 t386 10 t387 t388 t389 w0 _ ?side1 ?side2 A4.out).mono ?_);(case side1=>repeat (first|(with_reducible first|exact HI0.out|apply IsS142.alloc|apply IsS142.drewN|apply IsS142.drew|apply IsS142.set_1|apply IsS142.set_2|refine IsS142.far ?_ NB0_373.out _|refine IsS142.far ?_ NB0_383.out _)|exact HI0.out));(case side2=>repeat (first|(with_reducible first|exact HB.out|apply below_alloc|apply pw_below_drewN|apply below_drew1|refine below_set ?_ (IsS142.ge HI0.out)|refine below_set ?_ GE373.out|refine below_set ?_ GE383.out)|exact HB.out));rintro e w15 ⟨rfl,hi,hb,hk⟩;refine ⟨_,rfl,?_⟩;have n0_:=Aside0.mk (KeepBut.blk hk (g':=gb373) (o:=.cells #[.int .i64 0,.slice none 0 0] 43 (0,0)) (by (with_reducible repeat (first|refine blk_drewN ?_ _|refine blk_drew ?_|refine blk_alloc ?_ _));exact BK373.out) NB373_0.out (by simp));have n1_:=Aside0.mk (Kd.R_mono (Kd.R_keep (IsS142.apart (show IsS142 w0 _ g s0_0 t385 t386 from by repeat (first|(with_reducible first|exact HI0.out|apply IsS142.alloc|apply IsS142.drewN|apply IsS142.drew|apply IsS142.set_1|apply IsS142.set_2|refine IsS142.far ?_ NB0_373.out _|refine IsS142.far ?_ NB0_383.out _)|exact HI0.out)) (by (with_reducible repeat (first|apply Kd.R_alloc|apply Kd.R_drewN|apply Kd.R_drew));exact HO376.out) (by decide)) hk (fun _ h=>h.2)) (fun _ h=>h.1));have n2_:=Aside0.mk (Kd.S_mono (Kd.S_keep (IsS142.apartS (show IsS142 w0 _ g s0_0 t385 t386 from by repeat (first|(with_reducible first|exact HI0.out|apply IsS142.alloc|apply IsS142.drewN|apply IsS142.drew|apply IsS142.set_1|apply IsS142.set_2|refine IsS142.far ?_ NB0_373.out _|refine IsS142.far ?_ NB0_383.out _)|exact HI0.out)) (by (with_reducible repeat (first|apply Kd.S_alloc|apply Kd.S_drewN|apply Kd.S_drew));exact HO380.out) (by decide)) hk (fun _ h=>h.2)) (fun _ h=>h.1));have n3_:=Aside0.mk (KeepBut.blk hk (g':=gb383) (o:=.cells #[.int .i64 t377,.slice Ao13 t378.length co13] 43 (0,0)) (by (with_reducible repeat (first|refine blk_drewN ?_ _|refine blk_drew ?_|refine blk_alloc ?_ _));exact BK383.out) NB383_0.out (by simp));have n4_:=Aside0.mk (KeepBut.trans (by repeat (first|(with_reducible first|exact HK.out|apply KeepBut.set_|apply keep_drewN|apply keep_drew|apply keep_alloc|refine keep_far ?_ GW373.out _|refine keep_far ?_ GW383.out _)|exact HK.out)) hk (.inl rfl));have n5_:=Aside0.mk (hb);have n6_:=Aside0.mk (hi);clear BK373;clear HO376;clear HO380;clear BK383;clear HK;clear HB;clear HI0;have BK373:=n0_;have HO376:=n1_;have HO380:=n2_;have BK383:=n3_;have HK:=n4_;have HB:=n5_;have HI0:=n6_;clear n0_ n1_ n2_ n3_ n4_ n5_ n6_;(try clear hb);(try clear hb2);(try clear hk);(try clear hi))|((with_reducible refine gate_dst (N:=22) rfl ?_);refine Kd.R_lit (Kd.int .i64) _ 3 ?hg (N:=22) ?hd (xs:=([0,1,2,6]:List Int)) (inner:=[.int .i64 0,.int .i64 1,.int .i64 2,.int .i64 6]) (ok:=fun _=>True) (okp:=fun _=>True) ?hr ?hp (fun _ hk=>hk) trivial (Below.refl _ _) (Nat.le_refl _) (by simp) ?_;(case hd=>rfl);(case hg=>rfl);(case hr=>first|(go_simp;done)|(go_simp;rfl));(case hp=>exact (Reps.one (show Kd.M (Kd.int .i64) _ _ _ 0 [.int .i64 0] from rfl) (Reps.one (show Kd.M (Kd.int .i64) _ _ _ 1 [.int .i64 1] from rfl) (Reps.one (show Kd.M (Kd.int .i64) _ _ _ 2 [.int .i64 2] from rfl) (Reps.one (show Kd.M (Kd.int .i64) _ _ _ 6 [.int .i64 6] from rfl) (Reps.none _ _))))));intro v391 w16 ho17 hb hg_ hnew_;clear hg_ hnew_;(first|rw [← Ny390.out] at ho17|(simp only [Int.reduceToNat] at ho17;rw [← Ny390.out] at ho17));have n0_:=Aside0.mk (Kd.R_below (by (with_reducible repeat (first|apply Kd.R_alloc|apply Kd.R_drewN|apply Kd.R_drew));exact HO376.out) hb);have n1_:=Aside0.mk (Kd.S_elder' (by (with_reducible repeat (first|apply Kd.S_alloc|apply Kd.S_drewN|apply Kd.S_drew));exact HO380.out) (Kd.R_base ho17) hb);have n2_:=Aside0.mk (Kd.R_lower ho17 (keep_size (w:=w) (g:=g) (row:=none) (by repeat (first|(with_reducible first|exact HK.out|apply KeepBut.set_|apply keep_drewN|apply keep_drew|apply keep_alloc|refine keep_far ?_ GW373.out _|refine keep_far ?_ GW383.out _)|exact HK.out))));have n3_:=Aside0.mk (IsS142.below (by repeat (first|(with_reducible first|exact HI0.out|apply IsS142.alloc|apply IsS142.drewN|apply IsS142.drew|apply IsS142.set_1|apply IsS142.set_2|refine IsS142.far ?_ NB0_373.out _|refine IsS142.far ?_ NB0_383.out _)|exact HI0.out)) hb);have n4_:=Aside0.mk (blk_below (g:=gb373) (o:=.cells #[.int .i64 0,.slice none 0 0] 43 (0,0)) (by (with_reducible repeat (first|refine blk_drewN ?_ _|refine blk_drew ?_|refine blk_alloc ?_ _));exact BK373.out) hb);have n5_:=Aside0.mk (blk_below (g:=gb383) (o:=.cells #[.int .i64 t377,.slice Ao13 t378.length co13] 43 (0,0)) (by (with_reducible repeat (first|refine blk_drewN ?_ _|refine blk_drew ?_|refine blk_alloc ?_ _));exact BK383.out) hb);have n6_:=Aside0.mk (KeepBut.trans (by repeat (first|(with_reducible first|exact HK.out|apply KeepBut.set_|apply keep_drewN|apply keep_drew|apply keep_alloc|refine keep_far ?_ GW373.out _|refine keep_far ?_ GW383.out _)|exact HK.out)) (KeepBut.of_below hb g none) (.inl rfl));have n7_:=Aside0.mk (below_step (by repeat (first|(with_reducible first|exact HB.out|apply below_alloc|apply pw_below_drewN|apply below_drew1|refine below_set ?_ (IsS142.ge HI0.out)|refine below_set ?_ GE373.out|refine below_set ?_ GE383.out)|exact HB.out)) hb);clear HO376;clear HO380;clear HI0;clear BK373;clear BK383;clear HK;clear HB;have HO376:=n0_;have HO380:=n1_;have HO392:=n2_;have HI0:=n3_;have BK373:=n4_;have BK383:=n5_;have HK:=n6_;have HB:=n7_;clear n0_ n1_ n2_ n3_ n4_ n5_ n6_ n7_;clear hb ho17;obtain ⟨Ao18,co18,eo18⟩:=Kd.R_slice HO392.out;subst eo18)|((with_reducible refine gate_callee (f:=124) rfl ?_);refine goesL_ (some 23) rfl rfl Try.func124 (by kernel_rfl) rfl #[.pointer (some ⟨g,0,none⟩),.slice Ao18 y390.length co18] rfl (by (try simp only [List.map_toArray,List.map_cons,List.map_nil]);first|done|rfl|(simp only [List.length_drop,List.length_take];rfl)) ?_;(with_reducible refine (spec_l1Int.calls g s0_0 t388 t389 _ _ y390 t393 t394 t395 w0 _ ?side1 ?side2 ?side3 ?side4 ?side5 A6.out).mono ?_);(case side1=>repeat (first|(with_reducible first|exact HI0.out|apply IsS142.alloc|apply IsS142.drewN|apply IsS142.drew|apply IsS142.set_1|apply IsS142.set_2|refine IsS142.far ?_ NB0_373.out _|refine IsS142.far ?_ NB0_383.out _)|exact HI0.out));(case side2=>repeat (first|(with_reducible first|exact HB.out|apply below_alloc|apply pw_below_drewN|apply below_drew1|refine below_set ?_ (IsS142.ge HI0.out)|refine below_set ?_ GE373.out|refine below_set ?_ GE383.out)|exact HB.out));(case side3=>repeat (first|exact (Kd.R_reads' HO392.out).2.2|(with_reducible refine Kd.C_alloc ?_ _)|(with_reducible refine Kd.C_drewN ?_ _)|(with_reducible refine Kd.C_drew ?_)));(case side4=>exact (Kd.R_reads' HO392.out).2.1);(case side5=>exact far_slice (IsS142.own_ne HI0.out HO392.out (by decide)));rintro e w19 ⟨rfl,hi,hb,hk⟩;refine ⟨_,rfl,?_⟩;have n0_:=Aside0.mk (KeepBut.blk hk (g':=gb373) (o:=.cells #[.int .i64 0,.slice none 0 0] 43 (0,0)) (by (with_reducible repeat (first|refine blk_drewN ?_ _|refine blk_drew ?_|refine blk_alloc ?_ _));exact BK373.out) NB373_0.out (by simp));have n1_:=Aside0.mk (Kd.R_mono (Kd.R_keep (IsS142.apart (show IsS142 w0 _ g s0_0 t388 t389 from by repeat (first|(with_reducible first|exact HI0.out|apply IsS142.alloc|apply IsS142.drewN|apply IsS142.drew|apply IsS142.set_1|apply IsS142.set_2|refine IsS142.far ?_ NB0_373.out _|refine IsS142.far ?_ NB0_383.out _)|exact HI0.out)) (by (with_reducible repeat (first|apply Kd.R_alloc|apply Kd.R_drewN|apply Kd.R_drew));exact HO376.out) (by decide)) hk (fun _ h=>h.2)) (fun _ h=>h.1));have n2_:=Aside0.mk (Kd.S_mono (Kd.S_keep (IsS142.apartS (show IsS142 w0 _ g s0_0 t388 t389 from by repeat (first|(with_reducible first|exact HI0.out|apply IsS142.alloc|apply IsS142.drewN|apply IsS142.drew|apply IsS142.set_1|apply IsS142.set_2|refine IsS142.far ?_ NB0_373.out _|refine IsS142.far ?_ NB0_383.out _)|exact HI0.out)) (by (with_reducible repeat (first|apply Kd.S_alloc|apply Kd.S_drewN|apply Kd.S_drew));exact HO380.out) (by decide)) hk (fun _ h=>h.2)) (fun _ h=>h.1));have n3_:=Aside0.mk (KeepBut.blk hk (g':=gb383) (o:=.cells #[.int .i64 t377,.slice Ao13 t378.length co13] 43 (0,0)) (by (with_reducible repeat (first|refine blk_drewN ?_ _|refine blk_drew ?_|refine blk_alloc ?_ _));exact BK383.out) NB383_0.out (by simp));have n4_:=Aside0.mk (Kd.R_mono (Kd.R_keep (IsS142.apart (show IsS142 w0 _ g s0_0 t388 t389 from by repeat (first|(with_reducible first|exact HI0.out|apply IsS142.alloc|apply IsS142.drewN|apply IsS142.drew|apply IsS142.set_1|apply IsS142.set_2|refine IsS142.far ?_ NB0_373.out _|refine IsS142.far ?_ NB0_383.out _)|exact HI0.out)) (by (with_reducible repeat (first|apply Kd.R_alloc|apply Kd.R_drewN|apply Kd.R_drew));exact HO392.out) (by decide)) hk (fun _ h=>h.2)) (fun _ h=>h.1));have n5_:=Aside0.mk (KeepBut.trans (by repeat (first|(with_reducible first|exact HK.out|apply KeepBut.set_|apply keep_drewN|apply keep_drew|apply keep_alloc|refine keep_far ?_ GW373.out _|refine keep_far ?_ GW383.out _)|exact HK.out)) hk (.inl rfl));have n6_:=Aside0.mk (hb);have n7_:=Aside0.mk (hi);clear BK373;clear HO376;clear HO380;clear BK383;clear HO392;clear HK;clear HB;clear HI0;have BK373:=n0_;have HO376:=n1_;have HO380:=n2_;have BK383:=n3_;have HO392:=n4_;have HK:=n5_;have HB:=n6_;have HI0:=n7_;clear n0_ n1_ n2_ n3_ n4_ n5_ n6_ n7_;(try clear hb);(try clear hb2);(try clear hk);(try clear hi);have hcz20_0:w19.cell? ⟨gb383,0,none⟩=some (.int .i64 t377):=(blk_cell BK383.out 0).trans rfl;have hcz20_1:w19.cell? ⟨gb383,1,none⟩=some (.slice Ao13 t378.length co13):=(blk_cell BK383.out 1).trans rfl;have hfz20_0:=blk_frozen BK383.out 0;have hfz20_1:=blk_frozen BK383.out 1))
  have n0_:Aside0 (Kd.R k76 76 (w19.setCell ⟨gb383,0,none⟩ (.int .i64 t393)) w.heap.size (fun _=>True) v375 t374):=⟨by (with_reducible repeat (first|apply Kd.R_alloc|apply Kd.R_drewN|apply Kd.R_drew));exact Kd.R_mono (Kd.R_far (p:=⟨gb383,0,none⟩) (Kd.R_types HO376.out BK383.out (by decide)) (fun _ hk=>hk.2) (.int .i64 t393)) (fun _ hk=>trivial)⟩
  have n1_:Aside0 (Kd.S k29 29 (w19.setCell ⟨gb383,0,none⟩ (.int .i64 t393)) w.heap.size (fun k_=>some k_ ≠ (.slice Ao18 y390.length co18:Value).ownBlock) (.slice Ao13 t378.length co13) t378):=⟨by (with_reducible repeat (first|apply Kd.S_alloc|apply Kd.S_drewN|apply Kd.S_drew));exact Kd.S_mono (Kd.S_far (p:=⟨gb383,0,none⟩) (Kd.S_types HO380.out BK383.out (by decide)) (fun _ hk=>hk.2) (.int .i64 t393)) (fun _ hk=>hk.1.2)⟩
  have n2_:Aside0 (Kd.R (Kd.int .i64) 3 (w19.setCell ⟨gb383,0,none⟩ (.int .i64 t393)) w.heap.size (fun _=>True) (.slice Ao18 y390.length co18) y390):=⟨by (with_reducible repeat (first|apply Kd.R_alloc|apply Kd.R_drewN|apply Kd.R_drew));exact Kd.R_mono (Kd.R_far (p:=⟨gb383,0,none⟩) (Kd.R_types HO392.out BK383.out (by decide)) (fun _ hk=>hk.2) (.int .i64 t393)) (fun _ hk=>trivial)⟩
  have n3_:Aside0 ((w19.setCell ⟨gb383,0,none⟩ (.int .i64 t393)).heap[gb373]?=some (.cells #[.int .i64 0,.slice none 0 0] 43 (0,0))):=⟨by (with_reducible repeat (first|refine blk_drewN ?_ _|refine blk_drew ?_|refine blk_alloc ?_ _));refine blk_far ?_ NB373_383.out _;(with_reducible repeat (first|refine blk_drewN ?_ _|refine blk_drew ?_|refine blk_alloc ?_ _));exact BK373.out⟩
  have n4_:Aside0 ((w19.setCell ⟨gb383,0,none⟩ (.int .i64 t393)).heap[gb383]?=some (.cells #[.int .i64 t393,.slice Ao13 t378.length co13] 43 (0,0))):=⟨by (with_reducible repeat (first|refine blk_drewN ?_ _|refine blk_drew ?_|refine blk_alloc ?_ _));refine blk_put (cs:=#[.int .i64 t377,.slice Ao13 t378.length co13]) ?_ 0 _ rfl;(with_reducible repeat (first|refine blk_drewN ?_ _|refine blk_drew ?_|refine blk_alloc ?_ _));exact BK383.out⟩
  have n5_:Aside0 (IsS142 w0 (w19.setCell ⟨gb383,0,none⟩ (.int .i64 t393)) g s0_0 t394 t395):=⟨by repeat (first|(with_reducible first|exact HI0.out|apply IsS142.alloc|apply IsS142.drewN|apply IsS142.drew|apply IsS142.set_1|apply IsS142.set_2|refine IsS142.far ?_ NB0_373.out _|refine IsS142.far ?_ NB0_383.out _)|exact HI0.out)⟩
  have n6_:Aside0 (KeepBut w (w19.setCell ⟨gb383,0,none⟩ (.int .i64 t393)) g none):=⟨by repeat (first|(with_reducible first|exact HK.out|apply KeepBut.set_|apply keep_drewN|apply keep_drew|apply keep_alloc|refine keep_far ?_ GW373.out _|refine keep_far ?_ GW383.out _)|exact HK.out)⟩
  have n7_:Aside0 (Below w0.heap.size w0 (w19.setCell ⟨gb383,0,none⟩ (.int .i64 t393))):=⟨by repeat (first|(with_reducible first|exact HB.out|apply below_alloc|apply pw_below_drewN|apply below_drew1|refine below_set ?_ (IsS142.ge HI0.out)|refine below_set ?_ GE373.out|refine below_set ?_ GE383.out)|exact HB.out)⟩
  (try clear HO376)
  (try clear HO380)
  (try clear HO392)
  (try clear BK373)
  (try clear BK383)
  (try clear HI0)
  (try clear HK)
  (try clear HB)
  generalize (w19.setCell ⟨gb383,0,none⟩ (.int .i64 t393))=w21 at n0_ n1_ n2_ n3_ n4_ n5_ n6_ n7_ ⊢
  have HO376:=n0_
  have HO380:=n1_
  have HO392:=n2_
  have BK373:=n3_
  have BK383:=n4_
  have HI0:=n5_
  have HK:=n6_
  have HB:=n7_
  clear n0_ n1_ n2_ n3_ n4_ n5_ n6_ n7_
  have n0_:=Aside0.mk (Kd.R_drew HO376.out)
  have n1_:=Aside0.mk (Kd.S_drew HO380.out)
  have n2_:=Aside0.mk (Kd.R_drew HO392.out)
  have n3_:=Aside0.mk (blk_drew BK373.out)
  have n4_:=Aside0.mk (blk_drew BK383.out)
  have n5_:=Aside0.mk (IsS142.drew HI0.out)
  have n6_:=Aside0.mk (keep_drew HK.out)
  have n7_:=Aside0.mk (below_drew1 HB.out)
  clear HO376
  clear HO380
  clear HO392
  clear BK373
  clear BK383
  clear HI0
  clear HK
  clear HB
  have HO376:=n0_
  have HO380:=n1_
  have HO392:=n2_
  have BK373:=n3_
  have BK383:=n4_
  have HI0:=n5_
  have HK:=n6_
  have HB:=n7_
  clear n0_ n1_ n2_ n3_ n4_ n5_ n6_ n7_
  refine start_ (n:=4) (S:=fun w'=>w'.cell? ⟨gb383,0,none⟩=some (.int .i64 t393)∧w'.cell? ⟨gb383,1,none⟩=some (.slice Ao13 t378.length co13)) (ds:=[]) #[false,false,false,false] (by kernel_rfl) rfl rfl ⟨(blk_cell BK383.out 0).trans rfl,(blk_cell BK383.out 1).trans rfl⟩ (fun hHeld=>?_)
  generalize w21.drew=w22 at HO376 HO380 HO392 BK373 BK383 HI0 HK HB hHeld ⊢
  refine pure_ (i:=0) (N:=some 63) (v:=?_) (a':=?_) #[true,false,false,false] rfl rfl (by kernel_rfl) (fun _ _ _ h=>h) (Or.inl ⟨by rfl,?_⟩) ?_ ?_
  rotate_left
  ·intro w'
   go_simp
   with_reducible rfl
  rotate_left
  ·simp only [Act.put,List.setIfInBounds_toArray,List.set_cons_zero,List.set_cons_succ,i64_w,i32_w]
   rfl
  refine pure_ (i:=2) (N:=some 2) (v:=?_) (a':=?_) #[true,false,true,false] rfl rfl (by kernel_rfl) (fun _ _ _ h=>h) (Or.inl ⟨by rfl,?_⟩) ?_ ?_
  rotate_left
  ·intro w'
   go_simp
   with_reducible rfl
  rotate_left
  ·simp only [Act.put,List.setIfInBounds_toArray,List.set_cons_zero,List.set_cons_succ,i64_w,i32_w]
   rfl
  refine take_ (i:=1) (N:=some 64) (v:=?_) (a':=?_) #[true,true,true,false] rfl rfl (by kernel_rfl) (fun _ _ _ h=>h) (Or.inl ⟨by rfl,?_⟩) hHeld ?_ ?_
  rotate_left
  ·rintro w' ⟨s0,s1⟩
   go_simp
   with_reducible rfl
  rotate_left
  ·simp only [Act.put,List.setIfInBounds_toArray,List.set_cons_zero,List.set_cons_succ,i64_w,i32_w]
   rfl
  refine one_ (i:=3) (N:=none) #[true,true,true,true] rfl rfl (by kernel_rfl) (by decide) (fun K hK=>?_)
  have hs23:w22.cell? ⟨gb373,0,none⟩=some (.int .i64 0):=(blk_cell BK373.out 0).trans rfl
  have hfs23:=blk_frozen BK373.out 0
  have hns23_1:=NB383_373.out
  have hms23_1:=NB373_383.out
  have hs24:w22.cell? ⟨gb373,1,none⟩=some (.slice none 0 0):=(blk_cell BK373.out 1).trans rfl
  have hfs24:=blk_frozen BK373.out 1
  have hns24_1:=NB383_373.out
  have hms24_1:=NB373_383.out
  refine skip_ (w1:=?_) (by rfl) rfl ?_ ?_
  rotate_left
  ·go_simp
   rfl
  refine hK.out _ _ ⟨((cell_far (p:=⟨gb373,_,none⟩) NB383_373.out _).trans (((cell_far (p:=⟨gb373,_,none⟩) NB383_373.out _).trans (hHeld.1)))),((cell_far (p:=⟨gb373,_,none⟩) NB383_373.out _).trans (((cell_far (p:=⟨gb373,_,none⟩) NB383_373.out _).trans (hHeld.2))))⟩ (fun hHeld=>?_)
  clear hK K
  refine done_ (by kernel_rfl) ?_
  try go_wp2
  refine bodyPost_ret (results_tc rfl _ _ gb373 43 #[.int .i64 t393,.slice Ao13 t378.length co13] (0,0) _ rfl (by (with_reducible repeat (first|refine blk_drewN ?_ _|refine blk_drew ?_|refine blk_alloc ?_ _));refine blk_put (cs:=#[.int .i64 t393,.slice none 0 0]) ?_ 1 _ rfl;(with_reducible repeat (first|refine blk_drewN ?_ _|refine blk_drew ?_|refine blk_alloc ?_ _));refine blk_put (cs:=#[.int .i64 0,.slice none 0 0]) ?_ 0 _ rfl;(with_reducible repeat (first|refine blk_drewN ?_ _|refine blk_drew ?_|refine blk_alloc ?_ _));exact BK373.out) Try.underlying43 rfl (by kernel_rfl)) rfl ?_
  exact ⟨_,_,by first|rfl|(simp [errW_none,errW_some] <;> rfl)|(simp [*,errW_none,errW_some] <;> rfl),by (with_reducible repeat (first|apply Kd.R_alloc|apply Kd.R_drewN|apply Kd.R_drew));exact Kd.R_mono (Kd.R_far (p:=⟨gb373,1,none⟩) (Kd.R_far (p:=⟨gb373,0,none⟩) (Kd.R_types HO376.out BK373.out (by decide)) (fun _ hk=>hk.2) (.int .i64 t393)) (fun _ hk=>hk.2) (.slice Ao13 t378.length co13)) (fun _ hk=>trivial),by (with_reducible repeat (first|apply Kd.S_alloc|apply Kd.S_drewN|apply Kd.S_drew));exact Kd.S_mono (Kd.S_far (p:=⟨gb373,1,none⟩) (Kd.S_far (p:=⟨gb373,0,none⟩) (Kd.S_types HO380.out BK373.out (by decide)) (fun _ hk=>hk.2) (.int .i64 t393)) (fun _ hk=>hk.2) (.slice Ao13 t378.length co13)) (fun _ hk=>trivial),by repeat (first|(with_reducible first|exact HI0.out|apply IsS142.alloc|apply IsS142.drewN|apply IsS142.drew|apply IsS142.set_1|apply IsS142.set_2|refine IsS142.far ?_ NB0_373.out _|refine IsS142.far ?_ NB0_383.out _)|exact HI0.out),by repeat (first|(with_reducible first|exact HB.out|apply below_alloc|apply pw_below_drewN|apply below_drew1|refine below_set ?_ (IsS142.ge HI0.out)|refine below_set ?_ GE373.out|refine below_set ?_ GE383.out)|exact HB.out),by repeat (first|(with_reducible first|exact HK.out|apply KeepBut.set_|apply keep_drewN|apply keep_drew|apply keep_alloc|refine keep_far ?_ GW373.out _|refine keep_far ?_ GW383.out _)|exact HK.out)⟩
 ·rw [if_neg c5] at H
  have c5b0:(t387 == 0)=false:=beq_eq_false_iff_ne.mpr c5
  have c5b1:(t387 != 0)=true:=bne_iff_ne.mpr c5
  by_cases c25:t387=1
  ·rw [if_pos c25] at H
   have c25b0:(t387 == 1)=true:=beq_iff_eq.mpr c25
   have c25b1:(t387 != 1)=false:=bne_eq_false_iff_eq.mpr c25
   clear c25
   by_cases c26:0≤t384
   ·rw [if_pos c26] at H
    have c26b0:decide (0≤t384)=true:=decide_eq_true c26
    clear c26
    by_cases c27:t384 < (t378.length:Int)
    ·rw [if_pos c27] at H
     have c27b0:decide (t384 < (t378.length:Int))=true:=decide_eq_true c27
     clear c27
     replace H:=Option.bind_eq_some_iff.mp H
     obtain ⟨⟨t397,t398,t399⟩,A280,H⟩:=H
     replace H:(if ((rd_T29 t378 t384).f0).length < 17592186044416 then (some (t374,t377,(t378.set (t384:Int).toNat (⟨(((rd_T29 t378 t384).f0) ++ [t397])⟩:S29)),t398,t399)) else (none))=some (r1,r2,r3,r4,r5):=H
     have A28:=Aside0.mk A280
     clear A280
     by_cases c29:((rd_T29 t378 t384).f0).length < 17592186044416
     ·rw [if_pos c29] at H
      have LMc29:=Aside0.mk c29
      clear c29
      obtain ⟨y400,hy400⟩ : ∃ y_:List Int,y_=(((rd_T29 t378 t384).f0) ++ [t397]):=⟨_,rfl⟩
      replace H:(some (t374,t377,(t378.set (t384:Int).toNat (⟨y400⟩:S29)),t398,t399))=some (r1,r2,r3,r4,r5):=by first|(rw [hy400];with_reducible exact H)|(have H2_:=(Option.bind_some _ _).symm.trans H;rw [hy400];with_reducible exact H2_)|(have H2_:=(Option.bind_some _ _).symm.trans H;with_reducible exact H2_)|with_reducible exact H|(rw [hy400];exact H)|exact H
      have Ny400:=Aside0.mk hy400
      clear hy400
      obtain ⟨y403,hy403⟩ : ∃ y_:List (S29),y_=(t378.set (t384:Int).toNat (⟨y400⟩:S29)):=⟨_,rfl⟩
      replace H:(some (t374,t377,y403,t398,t399))=some (r1,r2,r3,r4,r5):=by first|(rw [hy403];with_reducible exact H)|(have H2_:=(Option.bind_some _ _).symm.trans H;rw [hy403];with_reducible exact H2_)|(have H2_:=(Option.bind_some _ _).symm.trans H;with_reducible exact H2_)|with_reducible exact H|(rw [hy403];exact H)|exact H
      have Ny403:=Aside0.mk hy403
      clear hy403
      simp only [Option.some.injEq,Prod.mk.injEq] at H
      obtain ⟨rfl,rfl,rfl,rfl,rfl⟩:=H
      go_enter Try.func104,Try.ntmps104
      try go_wp2_with (first|((with_reducible refine gate_dst (N:=3) rfl ?_);refine box_event ?hg (N:=3) ?hd (cs:=#[.int .i64 0,.slice none 0 0]) (t:=43) ?hr ?_;(case hd=>rfl);(case hg=>rfl);(case hr=>first|(go_simp;done)|(go_simp;rfl));intro gb373 hg w31 hbox hb;have n0_:=Aside0.mk (IsS142.below (by repeat (first|(with_reducible first|exact HI0.out|apply IsS142.alloc|apply IsS142.drewN|apply IsS142.drew|apply IsS142.set_1|apply IsS142.set_2)|exact HI0.out)) hb);have n1_:=Aside0.mk (KeepBut.trans (by repeat (first|(with_reducible first|exact HK.out|apply KeepBut.set_|apply keep_drewN|apply keep_drew|apply keep_alloc)|exact HK.out)) (KeepBut.of_below hb g none) (.inl rfl));have n2_:=Aside0.mk (below_step (by repeat (first|(with_reducible first|exact HB.out|apply below_alloc|apply pw_below_drewN|apply below_drew1|refine below_set ?_ (IsS142.ge HI0.out))|exact HB.out)) hb);have n3_:=Aside0.mk (hbox);have n4_:=Aside0.mk ((by rw [hg];exact (keep_size (w:=w) (g:=g) (row:=none) (by repeat (first|(with_reducible first|exact HK.out|apply KeepBut.set_|apply keep_drewN|apply keep_drew|apply keep_alloc)|exact HK.out))):w.heap.size≤gb373));have n5_:=Aside0.mk ((Nat.le_trans HW0.out (by rw [hg];exact (keep_size (w:=w) (g:=g) (row:=none) (by repeat (first|(with_reducible first|exact HK.out|apply KeepBut.set_|apply keep_drewN|apply keep_drew|apply keep_alloc)|exact HK.out))):w.heap.size≤gb373):w0.heap.size≤gb373));have n6_:=Aside0.mk ((by rw [hg];exact Nat.ne_of_lt (IsS142.lt (show IsS142 w0 _ g s0_0 s0_1 s0_2 from by repeat (first|(with_reducible first|exact HI0.out|apply IsS142.alloc|apply IsS142.drewN|apply IsS142.drew|apply IsS142.set_1|apply IsS142.set_2)|exact HI0.out))):g ≠ gb373));have n7_:=Aside0.mk ((by rw [hg];exact Nat.ne_of_gt (IsS142.lt (show IsS142 w0 _ g s0_0 s0_1 s0_2 from by repeat (first|(with_reducible first|exact HI0.out|apply IsS142.alloc|apply IsS142.drewN|apply IsS142.drew|apply IsS142.set_1|apply IsS142.set_2)|exact HI0.out))):gb373 ≠ g));clear HI0;clear HK;clear HB;have HI0:=n0_;have HK:=n1_;have HB:=n2_;have BK373:=n3_;have GW373:=n4_;have GE373:=n5_;have NB0_373:=n6_;have NB373_0:=n7_;clear n0_ n1_ n2_ n3_ n4_ n5_ n6_ n7_;clear hb hbox hg)|((with_reducible refine gate_callee (f:=123) rfl ?_);refine goesL_ (some 9) rfl rfl Try.func123 (by kernel_rfl) rfl #[.pointer (some ⟨g,0,none⟩)] rfl (by (try simp only [List.map_toArray,List.map_cons,List.map_nil]);first|done|rfl|(simp only [List.length_drop,List.length_take];rfl)) ?_;(with_reducible refine (spec_l5Draw.calls k g s0_0 s0_1 s0_2 t374 t377 t378 t381 t382 w0 _ ?side1 ?side2 A2.out).mono ?_);(case side1=>repeat (first|(with_reducible first|exact HI0.out|apply IsS142.alloc|apply IsS142.drewN|apply IsS142.drew|apply IsS142.set_1|apply IsS142.set_2|refine IsS142.far ?_ NB0_373.out _)|exact HI0.out));(case side2=>repeat (first|(with_reducible first|exact HB.out|apply below_alloc|apply pw_below_drewN|apply below_drew1|refine below_set ?_ (IsS142.ge HI0.out)|refine below_set ?_ GE373.out)|exact HB.out));rintro e w32 ⟨v375,v379,rfl,ho0,ho1,hi,hb,hk⟩;refine ⟨_,rfl,?_⟩;have n0_:=Aside0.mk (KeepBut.blk hk (g':=gb373) (o:=.cells #[.int .i64 0,.slice none 0 0] 43 (0,0)) (by (with_reducible repeat (first|refine blk_drewN ?_ _|refine blk_drew ?_|refine blk_alloc ?_ _));exact BK373.out) NB373_0.out (by simp));have n1_:=Aside0.mk (Kd.R_lower ho0 (keep_size (w:=w) (g:=g) (row:=none) (by repeat (first|(with_reducible first|exact HK.out|apply KeepBut.set_|apply keep_drewN|apply keep_drew|apply keep_alloc|refine keep_far ?_ GW373.out _)|exact HK.out))));have n2_:=Aside0.mk (Kd.S_lower ho1 (keep_size (w:=w) (g:=g) (row:=none) (by repeat (first|(with_reducible first|exact HK.out|apply KeepBut.set_|apply keep_drewN|apply keep_drew|apply keep_alloc|refine keep_far ?_ GW373.out _)|exact HK.out))));have n3_:=Aside0.mk (KeepBut.trans (by repeat (first|(with_reducible first|exact HK.out|apply KeepBut.set_|apply keep_drewN|apply keep_drew|apply keep_alloc|refine keep_far ?_ GW373.out _)|exact HK.out)) hk (.inl rfl));have n4_:=Aside0.mk (hb);have n5_:=Aside0.mk (hi);clear BK373;clear HK;clear HB;clear HI0;have BK373:=n0_;have HO376:=n1_;have HO380:=n2_;have HK:=n3_;have HB:=n4_;have HI0:=n5_;clear n0_ n1_ n2_ n3_ n4_ n5_;(try clear hb);(try clear hb2);(try clear hk);(try clear hi);(try clear ho0);(try clear ho1))|((with_reducible refine gate_dst (N:=5) rfl ?_);refine box_event ?hg (N:=5) ?hd (cs:=#[.int .i64 0,.slice none 0 0]) (t:=43) ?hr ?_;(case hd=>rfl);(case hg=>rfl);(case hr=>first|(go_simp;done)|(go_simp;rfl));intro gb383 hg w33 hbox hb;have n0_:=Aside0.mk (Kd.R_below (by (with_reducible repeat (first|apply Kd.R_alloc|apply Kd.R_drewN|apply Kd.R_drew));exact HO376.out) hb);have n1_:=Aside0.mk (Kd.S_below (by (with_reducible repeat (first|apply Kd.S_alloc|apply Kd.S_drewN|apply Kd.S_drew));exact HO380.out) hb);have n2_:=Aside0.mk (IsS142.below (by repeat (first|(with_reducible first|exact HI0.out|apply IsS142.alloc|apply IsS142.drewN|apply IsS142.drew|apply IsS142.set_1|apply IsS142.set_2|refine IsS142.far ?_ NB0_373.out _)|exact HI0.out)) hb);have n3_:=Aside0.mk (blk_below (g:=gb373) (o:=.cells #[.int .i64 0,.slice none 0 0] 43 (0,0)) (by (with_reducible repeat (first|refine blk_drewN ?_ _|refine blk_drew ?_|refine blk_alloc ?_ _));exact BK373.out) hb);have n4_:=Aside0.mk (KeepBut.trans (by repeat (first|(with_reducible first|exact HK.out|apply KeepBut.set_|apply keep_drewN|apply keep_drew|apply keep_alloc|refine keep_far ?_ GW373.out _)|exact HK.out)) (KeepBut.of_below hb g none) (.inl rfl));have n5_:=Aside0.mk (below_step (by repeat (first|(with_reducible first|exact HB.out|apply below_alloc|apply pw_below_drewN|apply below_drew1|refine below_set ?_ (IsS142.ge HI0.out)|refine below_set ?_ GE373.out)|exact HB.out)) hb);have n6_:=Aside0.mk (hbox);have n7_:=Aside0.mk ((by rw [hg];exact (keep_size (w:=w) (g:=g) (row:=none) (by repeat (first|(with_reducible first|exact HK.out|apply KeepBut.set_|apply keep_drewN|apply keep_drew|apply keep_alloc|refine keep_far ?_ GW373.out _)|exact HK.out))):w.heap.size≤gb383));have n8_:=Aside0.mk ((Nat.le_trans HW0.out (by rw [hg];exact (keep_size (w:=w) (g:=g) (row:=none) (by repeat (first|(with_reducible first|exact HK.out|apply KeepBut.set_|apply keep_drewN|apply keep_drew|apply keep_alloc|refine keep_far ?_ GW373.out _)|exact HK.out))):w.heap.size≤gb383):w0.heap.size≤gb383));have n9_:=Aside0.mk ((by rw [hg];exact Nat.ne_of_lt (blk_lt (g:=gb373) (o:=.cells #[.int .i64 0,.slice none 0 0] 43 (0,0)) (by (with_reducible repeat (first|refine blk_drewN ?_ _|refine blk_drew ?_|refine blk_alloc ?_ _));exact BK373.out)):gb373 ≠ gb383));have n10_:=Aside0.mk ((by rw [hg];exact Nat.ne_of_gt (blk_lt (g:=gb373) (o:=.cells #[.int .i64 0,.slice none 0 0] 43 (0,0)) (by (with_reducible repeat (first|refine blk_drewN ?_ _|refine blk_drew ?_|refine blk_alloc ?_ _));exact BK373.out)):gb383 ≠ gb373));have n11_:=Aside0.mk ((by rw [hg];exact Nat.ne_of_lt (IsS142.lt (show IsS142 w0 _ g s0_0 t381 t382 from by repeat (first|(with_reducible first|exact HI0.out|apply IsS142.alloc|apply IsS142.drewN|apply IsS142.drew|apply IsS142.set_1|apply IsS142.set_2|refine IsS142.far ?_ NB0_373.out _)|exact HI0.out))):g ≠ gb383));have n12_:=Aside0.mk ((by rw [hg];exact Nat.ne_of_gt (IsS142.lt (show IsS142 w0 _ g s0_0 t381 t382 from by repeat (first|(with_reducible first|exact HI0.out|apply IsS142.alloc|apply IsS142.drewN|apply IsS142.drew|apply IsS142.set_1|apply IsS142.set_2|refine IsS142.far ?_ NB0_373.out _)|exact HI0.out))):gb383 ≠ g));clear HO376;clear HO380;clear HI0;clear BK373;clear HK;clear HB;have HO376:=n0_;have HO380:=n1_;have HI0:=n2_;have BK373:=n3_;have HK:=n4_;have HB:=n5_;have BK383:=n6_;have GW383:=n7_;have GE383:=n8_;have NB373_383:=n9_;have NB383_373:=n10_;have NB0_383:=n11_;have NB383_0:=n12_;clear n0_ n1_ n2_ n3_ n4_ n5_ n6_ n7_ n8_ n9_ n10_ n11_ n12_;clear hb hbox hg;have hnb34:=NB383_373.out;have hnc34:=NB373_383.out;have hnb35:=NB383_0.out;have hnc35:=NB0_383.out;have hcz36_0:w33.cell? ⟨gb383,0,none⟩=some (.int .i64 0):=(blk_cell BK383.out 0).trans rfl;have hcz36_1:w33.cell? ⟨gb383,1,none⟩=some (.slice none 0 0):=(blk_cell BK383.out 1).trans rfl;have hfz36_0:=blk_frozen BK383.out 0;have hfz36_1:=blk_frozen BK383.out 1;obtain ⟨Ao37,co37,eo37⟩:=Kd.S_slice HO380.out;subst eo37)|((with_reducible refine gate_callee (f:=105) rfl ?_);refine goesL_ (some 16) rfl rfl Try.func105 (by kernel_rfl) rfl #[.pointer (some ⟨g,0,none⟩),.int .i64 (t378.length:Int)] rfl (by (try simp only [List.map_toArray,List.map_cons,List.map_nil]);first|done|rfl|(simp only [List.length_drop,List.length_take];rfl)) ?_;(with_reducible refine (spec_l1Below.calls g s0_0 t381 t382 (t378.length:Int) t384 t385 t386 w0 _ ?side1 ?side2 A3.out).mono ?_);(case side1=>repeat (first|(with_reducible first|exact HI0.out|apply IsS142.alloc|apply IsS142.drewN|apply IsS142.drew|apply IsS142.set_1|apply IsS142.set_2|refine IsS142.far ?_ NB0_373.out _|refine IsS142.far ?_ NB0_383.out _)|exact HI0.out));(case side2=>repeat (first|(with_reducible first|exact HB.out|apply below_alloc|apply pw_below_drewN|apply below_drew1|refine below_set ?_ (IsS142.ge HI0.out)|refine below_set ?_ GE373.out|refine below_set ?_ GE383.out)|exact HB.out));rintro e w38 ⟨rfl,hi,hb,hk⟩;refine ⟨_,rfl,?_⟩;have n0_:=Aside0.mk (KeepBut.blk hk (g':=gb373) (o:=.cells #[.int .i64 0,.slice none 0 0] 43 (0,0)) (by (with_reducible repeat (first|refine blk_drewN ?_ _|refine blk_drew ?_|refine blk_alloc ?_ _));refine blk_far ?_ NB373_383.out _;(with_reducible repeat (first|refine blk_drewN ?_ _|refine blk_drew ?_|refine blk_alloc ?_ _));refine blk_far ?_ NB373_383.out _;(with_reducible repeat (first|refine blk_drewN ?_ _|refine blk_drew ?_|refine blk_alloc ?_ _));exact BK373.out) NB373_0.out (by simp));have n1_:=Aside0.mk (Kd.R_mono (Kd.R_keep (IsS142.apart (show IsS142 w0 _ g s0_0 t381 t382 from by repeat (first|(with_reducible first|exact HI0.out|apply IsS142.alloc|apply IsS142.drewN|apply IsS142.drew|apply IsS142.set_1|apply IsS142.set_2|refine IsS142.far ?_ NB0_373.out _|refine IsS142.far ?_ NB0_383.out _)|exact HI0.out)) (by (with_reducible repeat (first|apply Kd.R_alloc|apply Kd.R_drewN|apply Kd.R_drew));exact (Kd.R_mono (Kd.R_far (p:=⟨gb383,1,none⟩) (Kd.R_far (p:=⟨gb383,0,none⟩) (Kd.R_types HO376.out BK383.out (by decide)) (fun _ hk=>hk.2) (.int .i64 t377)) (fun _ hk=>hk.2) (.slice Ao37 t378.length co37)) (fun _ h_=>h_.1))) (by decide)) hk (fun _ h=>h.2)) (fun _ h=>h.1));have n2_:=Aside0.mk (Kd.S_mono (Kd.S_keep (IsS142.apartS (show IsS142 w0 _ g s0_0 t381 t382 from by repeat (first|(with_reducible first|exact HI0.out|apply IsS142.alloc|apply IsS142.drewN|apply IsS142.drew|apply IsS142.set_1|apply IsS142.set_2|refine IsS142.far ?_ NB0_373.out _|refine IsS142.far ?_ NB0_383.out _)|exact HI0.out)) (by (with_reducible repeat (first|apply Kd.S_alloc|apply Kd.S_drewN|apply Kd.S_drew));exact (Kd.S_mono (Kd.S_far (p:=⟨gb383,1,none⟩) (Kd.S_far (p:=⟨gb383,0,none⟩) (Kd.S_types HO380.out BK383.out (by decide)) (fun _ hk=>hk.2) (.int .i64 t377)) (fun _ hk=>hk.2) (.slice Ao37 t378.length co37)) (fun _ h_=>h_.1))) (by decide)) hk (fun _ h=>h.2)) (fun _ h=>h.1));have n3_:=Aside0.mk (KeepBut.blk hk (g':=gb383) (o:=.cells #[.int .i64 t377,.slice Ao37 t378.length co37] 43 (0,0)) (by (with_reducible repeat (first|refine blk_drewN ?_ _|refine blk_drew ?_|refine blk_alloc ?_ _));refine blk_put (cs:=#[.int .i64 t377,.slice none 0 0]) ?_ 1 _ rfl;(with_reducible repeat (first|refine blk_drewN ?_ _|refine blk_drew ?_|refine blk_alloc ?_ _));refine blk_put (cs:=#[.int .i64 0,.slice none 0 0]) ?_ 0 _ rfl;(with_reducible repeat (first|refine blk_drewN ?_ _|refine blk_drew ?_|refine blk_alloc ?_ _));exact BK383.out) NB383_0.out (by simp));have n4_:=Aside0.mk (KeepBut.trans (by repeat (first|(with_reducible first|exact HK.out|apply KeepBut.set_|apply keep_drewN|apply keep_drew|apply keep_alloc|refine keep_far ?_ GW373.out _|refine keep_far ?_ GW383.out _)|exact HK.out)) hk (.inl rfl));have n5_:=Aside0.mk (hb);have n6_:=Aside0.mk (hi);clear BK373;clear HO376;clear HO380;clear BK383;clear HK;clear HB;clear HI0;have BK373:=n0_;have HO376:=n1_;have HO380:=n2_;have BK383:=n3_;have HK:=n4_;have HB:=n5_;have HI0:=n6_;clear n0_ n1_ n2_ n3_ n4_ n5_ n6_;(try clear hb);(try clear hb2);(try clear hk);(try clear hi))|((with_reducible refine gate_callee (f:=105) rfl ?_);refine goesL_ (some 18) rfl rfl Try.func105 (by kernel_rfl) rfl #[.pointer (some ⟨g,0,none⟩),.int .i64 10] rfl (by (try simp only [List.map_toArray,List.map_cons,List.map_nil]);first|done|rfl|(simp only [List.length_drop,List.length_take];rfl)) ?_;(with_reducible refine (spec_l1Below.calls g s0_0 t385 t386 10 t387 t388 t389 w0 _ ?side1 ?side2 A4.out).mono ?_);(case side1=>repeat (first|(with_reducible first|exact HI0.out|apply IsS142.alloc|apply IsS142.drewN|apply IsS142.drew|apply IsS142.set_1|apply IsS142.set_2|refine IsS142.far ?_ NB0_373.out _|refine IsS142.far ?_ NB0_383.out _)|exact HI0.out));(case side2=>repeat (first|(with_reducible first|exact HB.out|apply below_alloc|apply pw_below_drewN|apply below_drew1|refine below_set ?_ (IsS142.ge HI0.out)|refine below_set ?_ GE373.out|refine below_set ?_ GE383.out)|exact HB.out));rintro e w39 ⟨rfl,hi,hb,hk⟩;refine ⟨_,rfl,?_⟩;have n0_:=Aside0.mk (KeepBut.blk hk (g':=gb373) (o:=.cells #[.int .i64 0,.slice none 0 0] 43 (0,0)) (by (with_reducible repeat (first|refine blk_drewN ?_ _|refine blk_drew ?_|refine blk_alloc ?_ _));exact BK373.out) NB373_0.out (by simp));have n1_:=Aside0.mk (Kd.R_mono (Kd.R_keep (IsS142.apart (show IsS142 w0 _ g s0_0 t385 t386 from by repeat (first|(with_reducible first|exact HI0.out|apply IsS142.alloc|apply IsS142.drewN|apply IsS142.drew|apply IsS142.set_1|apply IsS142.set_2|refine IsS142.far ?_ NB0_373.out _|refine IsS142.far ?_ NB0_383.out _)|exact HI0.out)) (by (with_reducible repeat (first|apply Kd.R_alloc|apply Kd.R_drewN|apply Kd.R_drew));exact HO376.out) (by decide)) hk (fun _ h=>h.2)) (fun _ h=>h.1));have n2_:=Aside0.mk (Kd.S_mono (Kd.S_keep (IsS142.apartS (show IsS142 w0 _ g s0_0 t385 t386 from by repeat (first|(with_reducible first|exact HI0.out|apply IsS142.alloc|apply IsS142.drewN|apply IsS142.drew|apply IsS142.set_1|apply IsS142.set_2|refine IsS142.far ?_ NB0_373.out _|refine IsS142.far ?_ NB0_383.out _)|exact HI0.out)) (by (with_reducible repeat (first|apply Kd.S_alloc|apply Kd.S_drewN|apply Kd.S_drew));exact HO380.out) (by decide)) hk (fun _ h=>h.2)) (fun _ h=>h.1));have n3_:=Aside0.mk (KeepBut.blk hk (g':=gb383) (o:=.cells #[.int .i64 t377,.slice Ao37 t378.length co37] 43 (0,0)) (by (with_reducible repeat (first|refine blk_drewN ?_ _|refine blk_drew ?_|refine blk_alloc ?_ _));exact BK383.out) NB383_0.out (by simp));have n4_:=Aside0.mk (KeepBut.trans (by repeat (first|(with_reducible first|exact HK.out|apply KeepBut.set_|apply keep_drewN|apply keep_drew|apply keep_alloc|refine keep_far ?_ GW373.out _|refine keep_far ?_ GW383.out _)|exact HK.out)) hk (.inl rfl));have n5_:=Aside0.mk (hb);have n6_:=Aside0.mk (hi);clear BK373;clear HO376;clear HO380;clear BK383;clear HK;clear HB;clear HI0;have BK373:=n0_;have HO376:=n1_;have HO380:=n2_;have BK383:=n3_;have HK:=n4_;have HB:=n5_;have HI0:=n6_;clear n0_ n1_ n2_ n3_ n4_ n5_ n6_;(try clear hb);(try clear hb2);(try clear hk);(try clear hi)))
      have n0_:=Aside0.mk (Kd.R_drew HO376.out)
      have n1_:=Aside0.mk (Kd.S_drew HO380.out)
      have n2_:=Aside0.mk (blk_drew BK373.out)
      have n3_:=Aside0.mk (blk_drew BK383.out)
      have n4_:=Aside0.mk (IsS142.drew HI0.out)
      have n5_:=Aside0.mk (keep_drew HK.out)
      have n6_:=Aside0.mk (below_drew1 HB.out)
      clear HO376
      clear HO380
      clear BK373
      clear BK383
      clear HI0
      clear HK
      clear HB
      have HO376:=n0_
      have HO380:=n1_
      have BK373:=n2_
      have BK383:=n3_
      have HI0:=n4_
      have HK:=n5_
      have HB:=n6_
      clear n0_ n1_ n2_ n3_ n4_ n5_ n6_
      have p396:0≤(t384:Int):=of_decide_eq_true (by first|(with_reducible assumption)|assumption)
      have q396:t384 < (t378.length:Int):=of_decide_eq_true (by first|(with_reducible assumption)|assumption)
      obtain ⟨ad396,A396_0,c396_0,e396,hx396_0,hl396_0,hi396_0⟩:=at_T29 (Kd.S_reads' HO380.out).2.2 t384 p396 q396
      cases e396
      obtain ⟨ce396,hce396,hMe396,hcc396⟩:=Kd.S_get HO380.out z29 t384 p396 (by first|exact q396|exact of_decide_eq_true (by first|(with_reducible assumption)|assumption)|(have e_:=(Kd.S_reads' HO380.out).1;omega))
      obtain ⟨ve396_0,rfl,ge396_0⟩:=k29_openM hMe396
      have hv396_0:=hcc396 0 _ rfl
      rw [Nat.add_zero,show (k29).sz=1 from rfl,Nat.mul_one] at hv396_0
      replace hv396_0:=Option.some.inj (hv396_0.symm.trans hx396_0)
      rw [hv396_0] at ge396_0
      have HL396_0:=Aside0.mk (show Kd.R (Kd.int .i64) 3 _ _ _ _ ((rd_T29 t378 t384).f0) from ge396_0)
      clear hv396_0 ge396_0
      have HX396_0:=Aside0.mk hx396_0
      clear hcc396 hce396
      have HR396_0:=Aside0.mk hi396_0
      have HC396_0:=Aside0.mk hl396_0
      clear hi396_0 hl396_0
      replace p396:=eq_true p396
      replace q396:=eq_true q396
      refine start_ (n:=16) (S:=fun w'=>w'.cell? ⟨gb383,0,none⟩=some (.int .i64 t377)∧w'.cell? ⟨gb383,1,none⟩=some (.slice (some ad396) t378.length co37)∧w'.cell? (ad396.add (t384).toNat)=some (.slice A396_0 ((rd_T29 t378 t384).f0).length c396_0)) (ds:=[15]) #[false,false,false,false,false,false,false,false,false,false,false,false,false,false,false,false] (by kernel_rfl) rfl rfl ⟨(blk_cell BK383.out 0).trans rfl,(blk_cell BK383.out 1).trans rfl,hx396_0⟩ (fun hHeld=>?_);refine with_tabW spec_l5Any.tab7 spec_l5Any.bits7 (fun HT_ HW_=>?_)
      generalize w39.drew=w40 at HO376 HO380 BK373 BK383 HI0 HK HB HL396_0 HR396_0 HX396_0 hx396_0 hHeld ⊢
      refine pure_ (i:=0) (N:=some 27) (v:=?_) (a':=?_) #[true,false,false,false,false,false,false,false,false,false,false,false,false,false,false,false] rfl rfl (any_of HT_.out (by kernel_rfl)) (fun _ _ _ h=>h) (Or.inl ⟨by rfl,?_⟩) ?_ ?_
      rotate_left
      ·intro w'
       go_simp
       with_reducible rfl
      rotate_left
      ·simp only [Act.put,List.setIfInBounds_toArray,List.set_cons_zero,List.set_cons_succ,i64_w,i32_w]
       rfl
      refine pure_ (i:=2) (N:=some 29) (v:=?_) (a':=?_) #[true,false,true,false,false,false,false,false,false,false,false,false,false,false,false,false] rfl rfl (any_of HT_.out (by kernel_rfl)) (fun _ _ _ h=>h) (Or.inl ⟨by rfl,?_⟩) ?_ ?_
      rotate_left
      ·intro w'
       go_simp
       with_reducible rfl
      rotate_left
      ·simp only [Act.put,List.setIfInBounds_toArray,List.set_cons_zero,List.set_cons_succ,i64_w,i32_w]
       rfl
      refine pure_ (i:=3) (N:=some 30) (v:=?_) (a':=?_) #[true,false,true,true,false,false,false,false,false,false,false,false,false,false,false,false] rfl rfl (any_of HT_.out (by kernel_rfl)) (fun _ _ _ h=>h) (Or.inl ⟨by rfl,?_⟩) ?_ ?_
      rotate_left
      ·intro w'
       go_simp
       with_reducible rfl
      rotate_left
      ·simp only [Act.put,List.setIfInBounds_toArray,List.set_cons_zero,List.set_cons_succ,i64_w,i32_w]
       rfl
      refine pure_ (i:=5) (N:=some 32) (v:=?_) (a':=?_) #[true,false,true,true,false,true,false,false,false,false,false,false,false,false,false,false] rfl rfl (any_of HT_.out (by kernel_rfl)) (fun _ _ _ h=>h) (Or.inl ⟨by rfl,?_⟩) ?_ ?_
      rotate_left
      ·intro w'
       go_simp
       with_reducible rfl
      rotate_left
      ·simp only [Act.put,List.setIfInBounds_toArray,List.set_cons_zero,List.set_cons_succ,i64_w,i32_w]
       rfl
      refine pure_ (i:=9) (N:=some 36) (v:=?_) (a':=?_) #[true,false,true,true,false,true,false,false,false,true,false,false,false,false,false,false] rfl rfl (any_of HT_.out (by kernel_rfl)) (fun _ _ _ h=>h) (Or.inl ⟨by rfl,?_⟩) ?_ ?_
      rotate_left
      ·intro w'
       go_simp
       with_reducible rfl
      rotate_left
      ·simp only [Act.put,List.setIfInBounds_toArray,List.set_cons_zero,List.set_cons_succ,i64_w,i32_w]
       rfl
      refine take_ (i:=1) (N:=some 28) (v:=?_) (a':=?_) #[true,true,true,true,false,true,false,false,false,true,false,false,false,false,false,false] rfl rfl (take_ofW HT_.out HW_.out (by kernel_rfl)) (fun _ _ _ h=>h) (Or.inl ⟨by rfl,?_⟩) hHeld ?_ ?_
      rotate_left
      ·rintro w' ⟨s0,s1,s2⟩
       go_simp
       with_reducible rfl
      rotate_left
      ·simp only [Act.put,List.setIfInBounds_toArray,List.set_cons_zero,List.set_cons_succ,i64_w,i32_w]
       rfl
      refine take_ (i:=4) (N:=some 31) (v:=?_) (a':=?_) #[true,true,true,true,true,true,false,false,false,true,false,false,false,false,false,false] rfl rfl (take_ofW HT_.out HW_.out (by kernel_rfl)) (fun _ _ _ h=>h) (Or.inl ⟨by rfl,?_⟩) hHeld ?_ ?_
      rotate_left
      ·rintro w' ⟨s0,s1,s2⟩
       go_simp
       with_reducible rfl
      rotate_left
      ·simp only [Act.put,List.setIfInBounds_toArray,List.set_cons_zero,List.set_cons_succ,i64_w,i32_w]
       rfl
      refine pure_ (i:=6) (N:=some 33) (v:=?_) (a':=?_) #[true,true,true,true,true,true,true,false,false,true,false,false,false,false,false,false] rfl rfl (any_of HT_.out (by kernel_rfl)) (fun _ _ _ h=>h) (Or.inl ⟨by rfl,?_⟩) ?_ ?_
      rotate_left
      ·intro w'
       go_simp
       with_reducible rfl
      rotate_left
      ·simp only [Act.put,List.setIfInBounds_toArray,List.set_cons_zero,List.set_cons_succ,i64_w,i32_w]
       rfl
      refine pure_ (i:=7) (N:=some 34) (v:=?_) (a':=?_) #[true,true,true,true,true,true,true,true,false,true,false,false,false,false,false,false] rfl rfl (any_of HT_.out (by kernel_rfl)) (fun _ _ _ h=>h) (Or.inl ⟨by rfl,?_⟩) ?_ ?_
      rotate_left
      ·intro w'
       go_simp
       with_reducible rfl
      rotate_left
      ·simp only [Act.put,List.setIfInBounds_toArray,List.set_cons_zero,List.set_cons_succ,i64_w,i32_w]
       rfl
      refine take_ (i:=8) (N:=some 35) (v:=?_) (a':=?_) #[true,true,true,true,true,true,true,true,true,true,false,false,false,false,false,false] rfl rfl (take_ofW HT_.out HW_.out (by kernel_rfl)) (fun _ _ _ h=>h) (Or.inl ⟨by rfl,?_⟩) hHeld ?_ ?_
      rotate_left
      ·rintro w' ⟨s0,s1,s2⟩
       go_simp
       with_reducible rfl
      rotate_left
      ·simp only [Act.put,List.setIfInBounds_toArray,List.set_cons_zero,List.set_cons_succ,i64_w,i32_w]
       rfl
      refine one_ (i:=10) (N:=some 37) #[true,true,true,true,true,true,true,true,true,true,true,false,false,false,false,false] rfl rfl (one_of HT_.out (by kernel_rfl)) (by decide) (fun K hK=>?_)
      refine goes_ Try.func105 (by kernel_rfl) rfl #[.pointer (some ⟨g,0,none⟩),.int .i64 9] (by rfl) rfl rfl (by (try simp only [List.map_toArray,List.map_cons,List.map_nil]);first|done|rfl|(simp only [List.length_drop,List.length_take];rfl)) ?_
      with_reducible refine (spec_l1Below.calls g s0_0 t388 t389 9 t397 t398 t399 w0 _ ?side1 ?side2 A28.out).mono ?_
      (case side1=>repeat (first|(with_reducible first|exact HI0.out|apply IsS142.alloc|apply IsS142.drewN|apply IsS142.drew|apply IsS142.set_1|apply IsS142.set_2|refine IsS142.far ?_ NB0_373.out _|refine IsS142.far ?_ NB0_383.out _)|exact HI0.out))
      (case side2=>repeat (first|(with_reducible first|exact HB.out|apply below_alloc|apply pw_below_drewN|apply below_drew1|refine below_set ?_ (IsS142.ge HI0.out)|refine below_set ?_ GE373.out|refine below_set ?_ GE383.out)|exact HB.out))
      rintro e w41 ⟨rfl,hi,hb,hk⟩
      have HS2_:=keep_cell hk (hHeld.2.2) (by first|(rw [add_block];exact Kd.own_blk (IsS142.own_neS HI0.out HO380.out (by decide)))|(show (Addr.add _ _).block ≠ _;rw [add_block];exact Kd.own_blk (IsS142.own_neS HI0.out HO380.out (by decide)))|exact Kd.own_blk (IsS142.own_neS HI0.out HO380.out (by decide)))
      refine ⟨_,rfl,?_⟩
      have n0_:=Aside0.mk (KeepBut.blk hk (g':=gb373) (o:=.cells #[.int .i64 0,.slice none 0 0] 43 (0,0)) (by (with_reducible repeat (first|refine blk_drewN ?_ _|refine blk_drew ?_|refine blk_alloc ?_ _));exact BK373.out) NB373_0.out (by simp))
      have n1_:=Aside0.mk (Kd.R_mono (Kd.R_keep (IsS142.apart (show IsS142 w0 _ g s0_0 t388 t389 from by repeat (first|(with_reducible first|exact HI0.out|apply IsS142.alloc|apply IsS142.drewN|apply IsS142.drew|apply IsS142.set_1|apply IsS142.set_2|refine IsS142.far ?_ NB0_373.out _|refine IsS142.far ?_ NB0_383.out _)|exact HI0.out)) (by (with_reducible repeat (first|apply Kd.R_alloc|apply Kd.R_drewN|apply Kd.R_drew));exact HO376.out) (by decide)) hk (fun _ h=>h.2)) (fun _ h=>h.1))
      have n2_:=Aside0.mk (Kd.S_mono (Kd.S_keep (IsS142.apartS (show IsS142 w0 _ g s0_0 t388 t389 from by repeat (first|(with_reducible first|exact HI0.out|apply IsS142.alloc|apply IsS142.drewN|apply IsS142.drew|apply IsS142.set_1|apply IsS142.set_2|refine IsS142.far ?_ NB0_373.out _|refine IsS142.far ?_ NB0_383.out _)|exact HI0.out)) (by (with_reducible repeat (first|apply Kd.S_alloc|apply Kd.S_drewN|apply Kd.S_drew));exact HO380.out) (by decide)) hk (fun _ h=>h.2)) (fun _ h=>h.1))
      have n3_:=Aside0.mk (KeepBut.blk hk (g':=gb383) (o:=.cells #[.int .i64 t377,.slice (some ad396) t378.length co37] 43 (0,0)) (by (with_reducible repeat (first|refine blk_drewN ?_ _|refine blk_drew ?_|refine blk_alloc ?_ _));exact BK383.out) NB383_0.out (by simp))
      have n4_:=Aside0.mk (Kd.R_mono (Kd.R_keep (IsS142.apart (show IsS142 w0 _ g s0_0 t388 t389 from by repeat (first|(with_reducible first|exact HI0.out|apply IsS142.alloc|apply IsS142.drewN|apply IsS142.drew|apply IsS142.set_1|apply IsS142.set_2|refine IsS142.far ?_ NB0_373.out _|refine IsS142.far ?_ NB0_383.out _)|exact HI0.out)) (by (with_reducible repeat (first|apply Kd.R_alloc|apply Kd.R_drewN|apply Kd.R_drew));exact HL396_0.out) (by decide)) hk (fun _ h=>h.2)) (fun _ h=>h.1))
      have n5_:=Aside0.mk (keep_cell hk HX396_0.out (by first|(rw [add_block];exact Kd.own_blk (IsS142.own_neS HI0.out HO380.out (by decide)))|(show (Addr.add _ _).block ≠ _;rw [add_block];exact Kd.own_blk (IsS142.own_neS HI0.out HO380.out (by decide)))|exact Kd.own_blk (IsS142.own_neS HI0.out HO380.out (by decide))|(dsimp only;exact Kd.own_blk (IsS142.own_neS HI0.out HO380.out (by decide)))))
      have n6_:=Aside0.mk (KeepBut.trans (by repeat (first|(with_reducible first|exact HK.out|apply KeepBut.set_|apply keep_drewN|apply keep_drew|apply keep_alloc|refine keep_far ?_ GW373.out _|refine keep_far ?_ GW383.out _)|exact HK.out)) hk (.inl rfl))
      have n7_:=Aside0.mk (hb)
      have n8_:=Aside0.mk (hi)
      clear BK373
      clear HO376
      clear HO380
      clear BK383
      clear HL396_0
      clear HX396_0
      clear HK
      clear HB
      clear HI0
      have BK373:=n0_
      have HO376:=n1_
      have HO380:=n2_
      have BK383:=n3_
      have HL396_0:=n4_
      have HX396_0:=n5_
      have HK:=n6_
      have HB:=n7_
      have HI0:=n8_
      clear n0_ n1_ n2_ n3_ n4_ n5_ n6_ n7_ n8_
      (try clear hb)
      (try clear hb2)
      (try clear hk)
      (try clear hi)
      obtain ⟨go42,co42,eo42,gb42,gl42,cl42,HG42⟩:=Kd.S_form HO380.out (by have h_:(t384:Int) < ((t378.length:Int):Int):=of_decide_eq_true (by first|(with_reducible assumption)|assumption);have h2_:0≤(t384:Int):=(of_decide_eq_true (by first|(with_reducible assumption)|assumption));omega)
      (first|cases eo42|(injection eo42 with ea_ en_ ec_;(first|subst ea_|(injection ea_ with ea_;subst ea_));subst ec_;clear en_))
      have GB42:=Aside0.mk gb42
      have GG42:=Aside0.mk HG42
      clear gb42 gl42 HG42
      (first|simp only [add_plain] at hx396_0|skip)
      obtain ⟨oki42,ce42,hcl42,hM42,hcc42,_,_,hH42⟩:=Kd.S_elem HO380.out z29 (t384:Int) (of_decide_eq_true (by first|(with_reducible assumption)|assumption)) (by have h_:(t384:Int) < ((t378.length:Int):Int):=of_decide_eq_true (by first|(with_reducible assumption)|assumption);first|exact h_|(have e_:=(Kd.S_reads' HO380.out).1;omega)|simpa using h_)
      obtain ⟨ve42_0,rfl,ge42_0⟩:=k29_openM hM42
      have hv42:=hcc42 0 _ rfl
      have hX42:=HX396_0.out
      (try simp only [add_plain] at hX42)
      (try simp only [Nat.add_zero] at hv42)
      (try rw [show (k29).sz=1 from rfl,Nat.mul_one] at hv42)
      replace hv42:=Option.some.inj (hv42.symm.trans hX42)
      subst hv42
      clear hX42 hcc42 hcl42
      have UU42:=Aside0.mk (show Kd.R (Kd.int .i64) 3 _ w.heap.size oki42 (.slice A396_0 ((rd_T29 t378 t384).f0).length c396_0) ((rd_T29 t378 t384).f0) from ge42_0)
      have HH42:=Aside0.mk hH42
      have HN42:=Aside0.mk (Kd.S_reads' HO380.out).1
      clear hH42 ge42_0
      refine hK.out _ _ ⟨(blk_cell BK383.out 0).trans rfl,(blk_cell BK383.out 1).trans rfl,HS2_⟩ (fun hHeld=>?_)
      clear hK K
      refine norm_ (a':=?_) ?_ ?_
      rotate_left
      ·show Act.put _ (some 37) _=_
       simp only [Act.put,List.setIfInBounds_toArray,List.set_cons_zero,List.set_cons_succ,i64_w,i32_w]
       rfl
      refine one_ (i:=11) (N:=some 38) #[true,true,true,true,true,true,true,true,true,true,true,true,false,false,false,false] rfl rfl (one_of HT_.out (by kernel_rfl)) (by decide) (fun K hK=>?_)
      refine value_ (w1:=?_) (v:=?_) (by rfl) rfl ?_ ?_
      rotate_left 2
      ·go_simp
       constructor
       ·rfl
       ·rfl
      refine hK.out _ _ ⟨(blk_cell (blk_alloc BK383.out _) 0).trans rfl,(blk_cell (blk_alloc BK383.out _) 1).trans rfl,(World.cell?_alloc_lt _ _ _ (World.block_lt_of_cell? _ _ (hHeld.2.2))).trans (hHeld.2.2)⟩ (fun hHeld=>?_)
      clear hK K
      refine norm_ (a':=?_) ?_ ?_
      rotate_left
      ·show Act.put _ (some 38) _=_
       simp only [Act.put,List.setIfInBounds_toArray,List.set_cons_zero,List.set_cons_succ,i64_w,i32_w]
       rfl
      refine one_ (i:=12) (N:=some 39) #[true,true,true,true,true,true,true,true,true,true,true,true,true,false,false,false] rfl rfl (one_of HT_.out (by kernel_rfl)) (by decide) (fun K hK=>?_)
      refine Kd.R_append_step (Kd.int .i64) w.heap.size (by rfl) (.tmp 35) (.tmp 38) 22 3 (.int .i64 0) 8 rfl Try.underlying22 info3 rfl (by decide) (by omega) (.slice A396_0 ((rd_T29 t378 t384).f0).length c396_0) ((rd_T29 t378 t384).f0) t397 [.int .i64 t397] (fun k_=>oki42 k_ ∨ ((fun _=>True)) k_∧w41.heap.size≤k_) (fun _=>False) rfl rfl ?aP (fun _ hk=>hk.elim) ?aF ?aO (Below.refl _ _) ?aS ?aL ?_
      (case aP=>exact rfl)
      (case aF=>exact (fun k_ hk=>.inr ⟨trivial,hk⟩))
      (case aO=>exact (by (with_reducible repeat (first|apply Kd.R_alloc|apply Kd.R_drewN|apply Kd.R_drew));exact Kd.R_mono UU42.out (fun _ hk=>.inl hk)))
      (case aS=>exact (keep_size (w:=w) (g:=g) (row:=none) (by repeat (first|(with_reducible first|exact HK.out|apply KeepBut.set_|apply keep_drewN|apply keep_drew|apply keep_alloc|refine keep_far ?_ GW373.out _|refine keep_far ?_ GW383.out _)|exact HK.out))))
      (case aL=>have:=LMc29.out;omega)
      intro v401 w43 ho hb hg hat
      (first|have HS2_:=cell_grown hg (hHeld.2.2) (by first|(rw [add_block];exact (fun e_=>((HL396_0.out.1 _ e_.symm).2) rfl))|(show some (Addr.add _ _).block ≠ _;rw [add_block];exact (fun e_=>((HL396_0.out.1 _ e_.symm).2) rfl))|exact (fun e_=>((HL396_0.out.1 _ e_.symm).2) rfl))|have HS2_:=cell_grown hg (cell_unalloc (hHeld.2.2) (by first|(rw [add_block];exact Kd.S_lt HO380.out _ rfl)|(show (Addr.add _ _).block < _;rw [add_block];exact Kd.S_lt HO380.out _ rfl)|exact Kd.S_lt HO380.out _ rfl)) (by first|(rw [add_block];exact (fun e_=>((HL396_0.out.1 _ e_.symm).2) rfl))|(show some (Addr.add _ _).block ≠ _;rw [add_block];exact (fun e_=>((HL396_0.out.1 _ e_.symm).2) rfl))|exact (fun e_=>((HL396_0.out.1 _ e_.symm).2) rfl)))
      rw [← Ny400.out] at ho
      have n0_:=Aside0.mk (IsS142.grown (by repeat (first|(with_reducible first|exact HI0.out|apply IsS142.alloc|apply IsS142.drewN|apply IsS142.drew|apply IsS142.set_1|apply IsS142.set_2|refine IsS142.far ?_ NB0_373.out _|refine IsS142.far ?_ NB0_383.out _)|exact HI0.out)) hg (IsS142.own_ne HI0.out HL396_0.out (by decide)))
      have n1_:=Aside0.mk (blk_grown (g:=gb373) (o:=.cells #[.int .i64 0,.slice none 0 0] 43 (0,0)) (by (with_reducible repeat (first|refine blk_drewN ?_ _|refine blk_drew ?_|refine blk_alloc ?_ _));exact BK373.out) hg (Kd.R_ne HL396_0.out BK373.out (by decide)))
      have n2_:=Aside0.mk (Kd.R_over' (v:=(.slice A396_0 ((rd_T29 t378 t384).f0).length c396_0)) (by (with_reducible repeat (first|apply Kd.R_alloc|apply Kd.R_drewN|apply Kd.R_drew));exact HO376.out) (Kd.R_typed HL396_0.out) (by decide) hg)
      have n3_:=Aside0.mk (blk_grown (g:=gb383) (o:=.cells #[.int .i64 t377,.slice (some ⟨go42,0,none⟩) t378.length co37] 43 (0,0)) (by (with_reducible repeat (first|refine blk_drewN ?_ _|refine blk_drew ?_|refine blk_alloc ?_ _));exact BK383.out) hg (Kd.R_ne HL396_0.out BK383.out (by decide)))
      have n4_:=Aside0.mk (below_weaken (by repeat (first|(with_reducible first|exact HB.out|apply below_alloc|apply pw_below_drewN|apply below_drew1|refine below_set ?_ (IsS142.ge HI0.out)|refine below_set ?_ GE373.out|refine below_set ?_ GE383.out)|exact HB.out)) HL.out hb)
      have n5_:=Aside0.mk (KeepBut.trans (by repeat (first|(with_reducible first|exact HK.out|apply KeepBut.set_|apply keep_drewN|apply keep_drew|apply keep_alloc|refine keep_far ?_ GW373.out _|refine keep_far ?_ GW383.out _)|exact HK.out)) (KeepBut.of_grown hg g) (Kd.R_base2 HL396_0.out))
      have n6_:=Aside0.mk (Kd.H_grown (Kd.H_widen (by repeat (first|exact HH42.out|refine Kd.H_alloc ?_ _|refine Kd.H_drewN ?_ _|refine Kd.H_drew ?_))) hg (fun k_ e_=>.inl (UU42.out.1 k_ e_)))
      have n7_:=Aside0.mk (ho)
      clear HI0
      clear BK373
      clear HO376
      clear BK383
      clear HB
      clear HK
      clear HH42
      clear HO380
      clear UU42
      clear HL396_0
      have HI0:=n0_
      have BK373:=n1_
      have HO376:=n2_
      have BK383:=n3_
      have HB:=n4_
      have HK:=n5_
      have HH42:=n6_
      have HO402:=n7_
      clear n0_ n1_ n2_ n3_ n4_ n5_ n6_ n7_
      clear ho hb hg hat
      have p30:0≤(t384:Int):=of_decide_eq_true (by first|(with_reducible assumption)|assumption)
      have q30:(t384:Int) < ((t378.length:Int):Int):=of_decide_eq_true (by first|(with_reducible assumption)|assumption)
      replace p30:=eq_true p30
      replace q30:=eq_true q30
      obtain ⟨Ao46,co46,eo46⟩:=Kd.R_slice HO402.out
      (first|subst eo46|(injection eo46 with f1_ f2_ f3_;have f4_:=f1_.symm;have f5_:=f3_.symm;clear f1_ f2_ f3_;subst f4_;subst f5_))
      obtain ⟨_,_,hraw44,_,_,hcc44,_⟩:=Kd.H_raw HH42.out (of_decide_eq_true (by first|(with_reducible assumption)|assumption)) (by have h_:(t384:Int) < ((t378.length:Int):Int):=of_decide_eq_true (by first|(with_reducible assumption)|assumption);first|exact h_|(have e_:=(HN42.out);omega)|simpa using h_)
      obtain ⟨_,hfr44⟩:=Kd.H_at HH42.out (of_decide_eq_true (by first|(with_reducible assumption)|assumption)) (by have h_:(t384:Int) < ((t378.length:Int):Int):=of_decide_eq_true (by first|(with_reducible assumption)|assumption);first|exact h_|(have e_:=(HN42.out);omega)|simpa using h_)
      have hx44_0:=hcc44 0 _ rfl
      have hf44_0:=hfr44 0
      (try simp only [Nat.add_zero] at hx44_0 hf44_0)
      (try rw [show (k29).sz=1 from rfl,Nat.mul_one] at hx44_0)
      (try rw [show (k29).sz=1 from rfl,Nat.mul_one] at hf44_0)
      have HP44:=Kd.S_seg0 HH42.out (of_decide_eq_true (by first|(with_reducible assumption)|assumption)) (by have h_:(t384:Int) < ((t378.length:Int):Int):=of_decide_eq_true (by first|(with_reducible assumption)|assumption);first|exact h_|(have e_:=(HN42.out);omega)|simpa using h_) (seg:=[.slice Ao46 y400.length co46]) (j:=0) (show 1≤1 from by decide) (x':=(⟨y400⟩:S29)) (k29_mkM _ _ _ (⟨y400⟩:S29) HO402.out) (fun _ hk=>hk)
      (try simp only [show (k29).sz=1 from rfl,Nat.mul_one,Nat.add_zero] at HP44)
      clear hcc44 hfr44
      have HN0_go42:=Aside0.mk (show g ≠ go42 from by have h_:=IsS142.own_ne HI0.out hraw44 (by decide);intro e_;exact h_ (by rw [e_];rfl))
      have HNB373_go42:=Aside0.mk (show gb373 ≠ go42 from by have h_:=Kd.R_ne hraw44 BK373.out (by decide);intro e_;exact h_ (by rw [e_];rfl))
      have HNB383_go42:=Aside0.mk (show gb383 ≠ go42 from by have h_:=Kd.R_ne hraw44 BK383.out (by decide);intro e_;exact h_ (by rw [e_];rfl))
      have HS44:=HP44.1
      rw [← Ny403.out] at HS44
      have HQ44:=Aside0.mk HS44
      obtain ⟨_,hgg44⟩:=Kd.R_typed hraw44 go42 rfl
      have GG44_:=Aside0.mk hgg44
      clear HP44 HS44 hgg44
      refine hK.out _ _ ⟨(blk_cell BK383.out 0).trans rfl,(blk_cell BK383.out 1).trans rfl,HS2_⟩ (fun hHeld=>?_)
      clear hK K
      refine norm_ (a':=?_) ?_ ?_
      rotate_left
      ·show Act.put _ (some 39) _=_
       simp only [Act.put,List.setIfInBounds_toArray,List.set_cons_zero,List.set_cons_succ,i64_w,i32_w]
       rfl
      refine pure_ (i:=13) (N:=some 40) (v:=?_) (a':=?_) #[true,true,true,true,true,true,true,true,true,true,true,true,true,true,false,false] rfl rfl (any_of HT_.out (by kernel_rfl)) (fun _ _ _ h=>h) (Or.inl ⟨by rfl,?_⟩) ?_ ?_
      rotate_left
      ·intro w'
       go_simp
       with_reducible rfl
      rotate_left
      ·simp only [Act.put,List.setIfInBounds_toArray,List.set_cons_zero,List.set_cons_succ,i64_w,i32_w]
       rfl
      refine pure_ (i:=14) (N:=some 41) (v:=?_) (a':=?_) #[true,true,true,true,true,true,true,true,true,true,true,true,true,true,true,false] rfl rfl (any_of HT_.out (by kernel_rfl)) (fun _ _ _ h=>h) (Or.inl ⟨by rfl,?_⟩) ?_ ?_
      rotate_left
      ·intro w'
       go_simp
       with_reducible rfl
      rotate_left
      ·simp only [Act.put,List.setIfInBounds_toArray,List.set_cons_zero,List.set_cons_succ,i64_w,i32_w]
       rfl
      refine last_ (i:=15) (N:=none) #[true,true,true,true,true,true,true,true,true,true,true,true,true,true,true,true] rfl rfl (one_of HT_.out (by kernel_rfl)) (by decide) (fun K hK=>?_)
      refine skip_ (w1:=?_) (by rfl) rfl ?_ ?_
      rotate_left
      ·go_simp
       rfl
      refine hK.out _ _ ?_
      clear hK K
      refine done_ (done_of HT_.out (by kernel_rfl)) ?_
      have n0_:Aside0 (Kd.R k76 76 (w43.setCell ⟨go42,(t384:Int).toNat,none⟩ (.slice Ao46 y400.length co46)) w.heap.size (fun _=>True) v375 t374):=⟨by (with_reducible repeat (first|apply Kd.R_alloc|apply Kd.R_drewN|apply Kd.R_drew));exact Kd.R_mono (Kd.R_far (p:=⟨go42,(t384:Int).toNat,none⟩) (Kd.R_types HO376.out GG44_.out (by decide)) (fun _ hk=>hk.2) (.slice Ao46 y400.length co46)) (fun _ hk=>trivial)⟩
      have n1_:Aside0 (Kd.S k29 29 (w43.setCell ⟨go42,(t384:Int).toNat,none⟩ (.slice Ao46 y400.length co46)) w.heap.size (fun _=>True) (.slice (some ⟨go42,0,none⟩) t378.length co37) y403):=⟨by (with_reducible repeat (first|apply Kd.S_alloc|apply Kd.S_drewN|apply Kd.S_drew));exact HQ44.out⟩
      have n2_:Aside0 ((w43.setCell ⟨go42,(t384:Int).toNat,none⟩ (.slice Ao46 y400.length co46)).heap[gb373]?=some (.cells #[.int .i64 0,.slice none 0 0] 43 (0,0))):=⟨by (with_reducible repeat (first|refine blk_drewN ?_ _|refine blk_drew ?_|refine blk_alloc ?_ _));refine blk_far ?_ HNB373_go42.out _;(with_reducible repeat (first|refine blk_drewN ?_ _|refine blk_drew ?_|refine blk_alloc ?_ _));exact BK373.out⟩
      have n3_:Aside0 ((w43.setCell ⟨go42,(t384:Int).toNat,none⟩ (.slice Ao46 y400.length co46)).heap[gb383]?=some (.cells #[.int .i64 t377,.slice (some ⟨go42,0,none⟩) t378.length co37] 43 (0,0))):=⟨by (with_reducible repeat (first|refine blk_drewN ?_ _|refine blk_drew ?_|refine blk_alloc ?_ _));refine blk_far ?_ HNB383_go42.out _;(with_reducible repeat (first|refine blk_drewN ?_ _|refine blk_drew ?_|refine blk_alloc ?_ _));exact BK383.out⟩
      have n4_:Aside0 (IsS142 w0 (w43.setCell ⟨go42,(t384:Int).toNat,none⟩ (.slice Ao46 y400.length co46)) g s0_0 t398 t399):=⟨by repeat (first|(with_reducible first|exact HI0.out|apply IsS142.alloc|apply IsS142.drewN|apply IsS142.drew|apply IsS142.set_1|apply IsS142.set_2|refine IsS142.far ?_ HN0_go42.out _|refine IsS142.far ?_ NB0_373.out _|refine IsS142.far ?_ NB0_383.out _)|exact HI0.out)⟩
      have n5_:Aside0 (KeepBut w (w43.setCell ⟨go42,(t384:Int).toNat,none⟩ (.slice Ao46 y400.length co46)) g none):=⟨by repeat (first|(with_reducible first|exact HK.out|apply KeepBut.set_|apply keep_drewN|apply keep_drew|apply keep_alloc|refine keep_far ?_ GB42.out _|refine keep_far ?_ GW373.out _|refine keep_far ?_ GW383.out _)|exact HK.out)⟩
      have n6_:Aside0 (Below w0.heap.size w0 (w43.setCell ⟨go42,(t384:Int).toNat,none⟩ (.slice Ao46 y400.length co46))):=⟨by repeat (first|(with_reducible first|exact HB.out|apply below_alloc|apply pw_below_drewN|apply below_drew1|refine below_set ?_ (Nat.le_trans HL.out GB42.out)|refine below_set ?_ (IsS142.ge HI0.out)|refine below_set ?_ GE373.out|refine below_set ?_ GE383.out)|exact HB.out)⟩
      (try clear HO376)
      (try clear HO380)
      (try clear BK373)
      (try clear BK383)
      (try clear HI0)
      (try clear HK)
      (try clear HB)
      generalize (w43.setCell ⟨go42,(t384:Int).toNat,none⟩ (.slice Ao46 y400.length co46))=w47 at n0_ n1_ n2_ n3_ n4_ n5_ n6_ ⊢
      have HO376:=n0_
      have HO380:=n1_
      have BK373:=n2_
      have BK383:=n3_
      have HI0:=n4_
      have HK:=n5_
      have HB:=n6_
      clear n0_ n1_ n2_ n3_ n4_ n5_ n6_
      try go_wp2
      have n0_:=Aside0.mk (Kd.R_drew HO376.out)
      have n1_:=Aside0.mk (Kd.S_drew HO380.out)
      have n2_:=Aside0.mk (blk_drew BK373.out)
      have n3_:=Aside0.mk (blk_drew BK383.out)
      have n4_:=Aside0.mk (IsS142.drew HI0.out)
      have n5_:=Aside0.mk (keep_drew HK.out)
      have n6_:=Aside0.mk (below_drew1 HB.out)
      clear HO376
      clear HO380
      clear BK373
      clear BK383
      clear HI0
      clear HK
      clear HB
      have HO376:=n0_
      have HO380:=n1_
      have BK373:=n2_
      have BK383:=n3_
      have HI0:=n4_
      have HK:=n5_
      have HB:=n6_
      clear n0_ n1_ n2_ n3_ n4_ n5_ n6_
      refine start_ (n:=4) (S:=fun w'=>w'.cell? ⟨gb383,0,none⟩=some (.int .i64 t377)∧w'.cell? ⟨gb383,1,none⟩=some (.slice (some ⟨go42,0,none⟩) t378.length co37)) (ds:=[]) #[false,false,false,false] (by kernel_rfl) rfl rfl ⟨(blk_cell BK383.out 0).trans rfl,(blk_cell BK383.out 1).trans rfl⟩ (fun hHeld=>?_)
      generalize w47.drew=w48 at HO376 HO380 BK373 BK383 HI0 HK HB hHeld ⊢
      refine pure_ (i:=0) (N:=some 63) (v:=?_) (a':=?_) #[true,false,false,false] rfl rfl (by kernel_rfl) (fun _ _ _ h=>h) (Or.inl ⟨by rfl,?_⟩) ?_ ?_
      rotate_left
      ·intro w'
       go_simp
       with_reducible rfl
      rotate_left
      ·simp only [Act.put,List.setIfInBounds_toArray,List.set_cons_zero,List.set_cons_succ,i64_w,i32_w]
       rfl
      refine pure_ (i:=2) (N:=some 2) (v:=?_) (a':=?_) #[true,false,true,false] rfl rfl (by kernel_rfl) (fun _ _ _ h=>h) (Or.inl ⟨by rfl,?_⟩) ?_ ?_
      rotate_left
      ·intro w'
       go_simp
       with_reducible rfl
      rotate_left
      ·simp only [Act.put,List.setIfInBounds_toArray,List.set_cons_zero,List.set_cons_succ,i64_w,i32_w]
       rfl
      refine take_ (i:=1) (N:=some 64) (v:=?_) (a':=?_) #[true,true,true,false] rfl rfl (by kernel_rfl) (fun _ _ _ h=>h) (Or.inl ⟨by rfl,?_⟩) hHeld ?_ ?_
      rotate_left
      ·rintro w' ⟨s0,s1⟩
       go_simp
       with_reducible rfl
      rotate_left
      ·simp only [Act.put,List.setIfInBounds_toArray,List.set_cons_zero,List.set_cons_succ,i64_w,i32_w]
       rfl
      refine one_ (i:=3) (N:=none) #[true,true,true,true] rfl rfl (by kernel_rfl) (by decide) (fun K hK=>?_)
      have hs49:w48.cell? ⟨gb373,0,none⟩=some (.int .i64 0):=(blk_cell BK373.out 0).trans rfl
      have hfs49:=blk_frozen BK373.out 0
      have hns49_1:=NB383_373.out
      have hms49_1:=NB373_383.out
      have hs50:w48.cell? ⟨gb373,1,none⟩=some (.slice none 0 0):=(blk_cell BK373.out 1).trans rfl
      have hfs50:=blk_frozen BK373.out 1
      have hns50_1:=NB383_373.out
      have hms50_1:=NB373_383.out
      refine skip_ (w1:=?_) (by rfl) rfl ?_ ?_
      rotate_left
      ·go_simp
       rfl
      refine hK.out _ _ ⟨((cell_far (p:=⟨gb373,_,none⟩) NB383_373.out _).trans (((cell_far (p:=⟨gb373,_,none⟩) NB383_373.out _).trans (hHeld.1)))),((cell_far (p:=⟨gb373,_,none⟩) NB383_373.out _).trans (((cell_far (p:=⟨gb373,_,none⟩) NB383_373.out _).trans (hHeld.2))))⟩ (fun hHeld=>?_)
      clear hK K
      refine done_ (by kernel_rfl) ?_
      try go_wp2
      refine bodyPost_ret (results_tc rfl _ _ gb373 43 #[.int .i64 t377,.slice (some ⟨go42,0,none⟩) t378.length co37] (0,0) _ rfl (by (with_reducible repeat (first|refine blk_drewN ?_ _|refine blk_drew ?_|refine blk_alloc ?_ _));refine blk_put (cs:=#[.int .i64 t377,.slice none 0 0]) ?_ 1 _ rfl;(with_reducible repeat (first|refine blk_drewN ?_ _|refine blk_drew ?_|refine blk_alloc ?_ _));refine blk_put (cs:=#[.int .i64 0,.slice none 0 0]) ?_ 0 _ rfl;(with_reducible repeat (first|refine blk_drewN ?_ _|refine blk_drew ?_|refine blk_alloc ?_ _));exact BK373.out) Try.underlying43 rfl (by kernel_rfl)) rfl ?_
      exact ⟨_,_,by first|rfl|(simp [errW_none,errW_some] <;> rfl)|(simp [*,errW_none,errW_some] <;> rfl),by (with_reducible repeat (first|apply Kd.R_alloc|apply Kd.R_drewN|apply Kd.R_drew));exact Kd.R_mono (Kd.R_far (p:=⟨gb373,1,none⟩) (Kd.R_far (p:=⟨gb373,0,none⟩) (Kd.R_types HO376.out BK373.out (by decide)) (fun _ hk=>hk.2) (.int .i64 t377)) (fun _ hk=>hk.2) (.slice (some ⟨go42,0,none⟩) t378.length co37)) (fun _ hk=>trivial),by (with_reducible repeat (first|apply Kd.S_alloc|apply Kd.S_drewN|apply Kd.S_drew));exact Kd.S_mono (Kd.S_far (p:=⟨gb373,1,none⟩) (Kd.S_far (p:=⟨gb373,0,none⟩) (Kd.S_types HO380.out BK373.out (by decide)) (fun _ hk=>hk.2) (.int .i64 t377)) (fun _ hk=>hk.2) (.slice (some ⟨go42,0,none⟩) t378.length co37)) (fun _ hk=>trivial),by repeat (first|(with_reducible first|exact HI0.out|apply IsS142.alloc|apply IsS142.drewN|apply IsS142.drew|apply IsS142.set_1|apply IsS142.set_2|refine IsS142.far ?_ NB0_373.out _|refine IsS142.far ?_ NB0_383.out _)|exact HI0.out),by repeat (first|(with_reducible first|exact HB.out|apply below_alloc|apply pw_below_drewN|apply below_drew1|refine below_set ?_ (IsS142.ge HI0.out)|refine below_set ?_ GE373.out|refine below_set ?_ GE383.out)|exact HB.out),by repeat (first|(with_reducible first|exact HK.out|apply KeepBut.set_|apply keep_drewN|apply keep_drew|apply keep_alloc|refine keep_far ?_ GW373.out _|refine keep_far ?_ GW383.out _)|exact HK.out)⟩
     ·rw [if_neg c29] at H
      exact absurd H (by simp)
    ·rw [if_neg c27] at H
     exact absurd H (by simp)
   ·rw [if_neg c26] at H
    exact absurd H (by simp)
  ·rw [if_neg c25] at H
   have c25b0:(t387 == 1)=false:=beq_eq_false_iff_ne.mpr c25
   have c25b1:(t387 != 1)=true:=bne_iff_ne.mpr c25
   by_cases c51:t387=2
   ·rw [if_pos c51] at H
    have c51b0:(t387 == 2)=true:=beq_iff_eq.mpr c51
    have c51b1:(t387 != 2)=false:=bne_eq_false_iff_eq.mpr c51
    clear c51
    by_cases c52:0≤t384
    ·rw [if_pos c52] at H
     have c52b0:decide (0≤t384)=true:=decide_eq_true c52
     clear c52
     by_cases c53:t384 < (t378.length:Int)
     ·rw [if_pos c53] at H
      have c53b0:decide (t384 < (t378.length:Int))=true:=decide_eq_true c53
      clear c53
      replace H:=Option.bind_eq_some_iff.mp H
      obtain ⟨⟨t405,t406,t407⟩,A540,H⟩:=H
      replace H:(if 0 < (((rd_T29 t378 t384).f0).length:Int) then (some (t374,t377,(t378.set (t384:Int).toNat (⟨(((rd_T29 t378 t384).f0).set (0:Int).toNat t405)⟩:S29)),t406,t407)) else (none))=some (r1,r2,r3,r4,r5):=H
      have A54:=Aside0.mk A540
      clear A540
      by_cases c55:0 < (((rd_T29 t378 t384).f0).length:Int)
      ·rw [if_pos c55] at H
       have c55b0:decide (0 < (((rd_T29 t378 t384).f0).length:Int))=true:=decide_eq_true c55
       have c55b1:decide (0 < ((rd_T29 t378 t384).f0).length)=true:=decide_eq_true (by omega)
       clear c55
       obtain ⟨y408,hy408⟩ : ∃ y_:List Int,y_=(((rd_T29 t378 t384).f0).set (0:Int).toNat t405):=⟨_,rfl⟩
       replace H:(some (t374,t377,(t378.set (t384:Int).toNat (⟨y408⟩:S29)),t406,t407))=some (r1,r2,r3,r4,r5):=by first|(rw [hy408];with_reducible exact H)|(have H2_:=(Option.bind_some _ _).symm.trans H;rw [hy408];with_reducible exact H2_)|(have H2_:=(Option.bind_some _ _).symm.trans H;with_reducible exact H2_)|with_reducible exact H|(rw [hy408];exact H)|exact H
       have Ny408:=Aside0.mk hy408
       clear hy408
       obtain ⟨y410,hy410⟩ : ∃ y_:List (S29),y_=(t378.set (t384:Int).toNat (⟨y408⟩:S29)):=⟨_,rfl⟩
       replace H:(some (t374,t377,y410,t406,t407))=some (r1,r2,r3,r4,r5):=by first|(rw [hy410];with_reducible exact H)|(have H2_:=(Option.bind_some _ _).symm.trans H;rw [hy410];with_reducible exact H2_)|(have H2_:=(Option.bind_some _ _).symm.trans H;with_reducible exact H2_)|with_reducible exact H|(rw [hy410];exact H)|exact H
       have Ny410:=Aside0.mk hy410
       clear hy410
       simp only [Option.some.injEq,Prod.mk.injEq] at H
       obtain ⟨rfl,rfl,rfl,rfl,rfl⟩:=H
       go_enter Try.func104,Try.ntmps104
       try go_wp2_with (first|((with_reducible refine gate_dst (N:=3) rfl ?_);refine box_event ?hg (N:=3) ?hd (cs:=#[.int .i64 0,.slice none 0 0]) (t:=43) ?hr ?_;(case hd=>rfl);(case hg=>rfl);(case hr=>first|(go_simp;done)|(go_simp;rfl));intro gb373 hg w57 hbox hb;have n0_:=Aside0.mk (IsS142.below (by repeat (first|(with_reducible first|exact HI0.out|apply IsS142.alloc|apply IsS142.drewN|apply IsS142.drew|apply IsS142.set_1|apply IsS142.set_2)|exact HI0.out)) hb);have n1_:=Aside0.mk (KeepBut.trans (by repeat (first|(with_reducible first|exact HK.out|apply KeepBut.set_|apply keep_drewN|apply keep_drew|apply keep_alloc)|exact HK.out)) (KeepBut.of_below hb g none) (.inl rfl));have n2_:=Aside0.mk (below_step (by repeat (first|(with_reducible first|exact HB.out|apply below_alloc|apply pw_below_drewN|apply below_drew1|refine below_set ?_ (IsS142.ge HI0.out))|exact HB.out)) hb);have n3_:=Aside0.mk (hbox);have n4_:=Aside0.mk ((by rw [hg];exact (keep_size (w:=w) (g:=g) (row:=none) (by repeat (first|(with_reducible first|exact HK.out|apply KeepBut.set_|apply keep_drewN|apply keep_drew|apply keep_alloc)|exact HK.out))):w.heap.size≤gb373));have n5_:=Aside0.mk ((Nat.le_trans HW0.out (by rw [hg];exact (keep_size (w:=w) (g:=g) (row:=none) (by repeat (first|(with_reducible first|exact HK.out|apply KeepBut.set_|apply keep_drewN|apply keep_drew|apply keep_alloc)|exact HK.out))):w.heap.size≤gb373):w0.heap.size≤gb373));have n6_:=Aside0.mk ((by rw [hg];exact Nat.ne_of_lt (IsS142.lt (show IsS142 w0 _ g s0_0 s0_1 s0_2 from by repeat (first|(with_reducible first|exact HI0.out|apply IsS142.alloc|apply IsS142.drewN|apply IsS142.drew|apply IsS142.set_1|apply IsS142.set_2)|exact HI0.out))):g ≠ gb373));have n7_:=Aside0.mk ((by rw [hg];exact Nat.ne_of_gt (IsS142.lt (show IsS142 w0 _ g s0_0 s0_1 s0_2 from by repeat (first|(with_reducible first|exact HI0.out|apply IsS142.alloc|apply IsS142.drewN|apply IsS142.drew|apply IsS142.set_1|apply IsS142.set_2)|exact HI0.out))):gb373 ≠ g));clear HI0;clear HK;clear HB;have HI0:=n0_;have HK:=n1_;have HB:=n2_;have BK373:=n3_;have GW373:=n4_;have GE373:=n5_;have NB0_373:=n6_;have NB373_0:=n7_;clear n0_ n1_ n2_ n3_ n4_ n5_ n6_ n7_;clear hb hbox hg)|((with_reducible refine gate_callee (f:=123) rfl ?_);refine goesL_ (some 9) rfl rfl Try.func123 (by kernel_rfl) rfl #[.pointer (some ⟨g,0,none⟩)] rfl (by (try simp only [List.map_toArray,List.map_cons,List.map_nil]);first|done|rfl|(simp only [List.length_drop,List.length_take];rfl)) ?_;(with_reducible refine (spec_l5Draw.calls k g s0_0 s0_1 s0_2 t374 t377 t378 t381 t382 w0 _ ?side1 ?side2 A2.out).mono ?_);(case side1=>repeat (first|(with_reducible first|exact HI0.out|apply IsS142.alloc|apply IsS142.drewN|apply IsS142.drew|apply IsS142.set_1|apply IsS142.set_2|refine IsS142.far ?_ NB0_373.out _)|exact HI0.out));(case side2=>repeat (first|(with_reducible first|exact HB.out|apply below_alloc|apply pw_below_drewN|apply below_drew1|refine below_set ?_ (IsS142.ge HI0.out)|refine below_set ?_ GE373.out)|exact HB.out));rintro e w58 ⟨v375,v379,rfl,ho0,ho1,hi,hb,hk⟩;refine ⟨_,rfl,?_⟩;have n0_:=Aside0.mk (KeepBut.blk hk (g':=gb373) (o:=.cells #[.int .i64 0,.slice none 0 0] 43 (0,0)) (by (with_reducible repeat (first|refine blk_drewN ?_ _|refine blk_drew ?_|refine blk_alloc ?_ _));exact BK373.out) NB373_0.out (by simp));have n1_:=Aside0.mk (Kd.R_lower ho0 (keep_size (w:=w) (g:=g) (row:=none) (by repeat (first|(with_reducible first|exact HK.out|apply KeepBut.set_|apply keep_drewN|apply keep_drew|apply keep_alloc|refine keep_far ?_ GW373.out _)|exact HK.out))));have n2_:=Aside0.mk (Kd.S_lower ho1 (keep_size (w:=w) (g:=g) (row:=none) (by repeat (first|(with_reducible first|exact HK.out|apply KeepBut.set_|apply keep_drewN|apply keep_drew|apply keep_alloc|refine keep_far ?_ GW373.out _)|exact HK.out))));have n3_:=Aside0.mk (KeepBut.trans (by repeat (first|(with_reducible first|exact HK.out|apply KeepBut.set_|apply keep_drewN|apply keep_drew|apply keep_alloc|refine keep_far ?_ GW373.out _)|exact HK.out)) hk (.inl rfl));have n4_:=Aside0.mk (hb);have n5_:=Aside0.mk (hi);clear BK373;clear HK;clear HB;clear HI0;have BK373:=n0_;have HO376:=n1_;have HO380:=n2_;have HK:=n3_;have HB:=n4_;have HI0:=n5_;clear n0_ n1_ n2_ n3_ n4_ n5_;(try clear hb);(try clear hb2);(try clear hk);(try clear hi);(try clear ho0);(try clear ho1))|((with_reducible refine gate_dst (N:=5) rfl ?_);refine box_event ?hg (N:=5) ?hd (cs:=#[.int .i64 0,.slice none 0 0]) (t:=43) ?hr ?_;(case hd=>rfl);(case hg=>rfl);(case hr=>first|(go_simp;done)|(go_simp;rfl));intro gb383 hg w59 hbox hb;have n0_:=Aside0.mk (Kd.R_below (by (with_reducible repeat (first|apply Kd.R_alloc|apply Kd.R_drewN|apply Kd.R_drew));exact HO376.out) hb);have n1_:=Aside0.mk (Kd.S_below (by (with_reducible repeat (first|apply Kd.S_alloc|apply Kd.S_drewN|apply Kd.S_drew));exact HO380.out) hb);have n2_:=Aside0.mk (IsS142.below (by repeat (first|(with_reducible first|exact HI0.out|apply IsS142.alloc|apply IsS142.drewN|apply IsS142.drew|apply IsS142.set_1|apply IsS142.set_2|refine IsS142.far ?_ NB0_373.out _)|exact HI0.out)) hb);have n3_:=Aside0.mk (blk_below (g:=gb373) (o:=.cells #[.int .i64 0,.slice none 0 0] 43 (0,0)) (by (with_reducible repeat (first|refine blk_drewN ?_ _|refine blk_drew ?_|refine blk_alloc ?_ _));exact BK373.out) hb);have n4_:=Aside0.mk (KeepBut.trans (by repeat (first|(with_reducible first|exact HK.out|apply KeepBut.set_|apply keep_drewN|apply keep_drew|apply keep_alloc|refine keep_far ?_ GW373.out _)|exact HK.out)) (KeepBut.of_below hb g none) (.inl rfl));have n5_:=Aside0.mk (below_step (by repeat (first|(with_reducible first|exact HB.out|apply below_alloc|apply pw_below_drewN|apply below_drew1|refine below_set ?_ (IsS142.ge HI0.out)|refine below_set ?_ GE373.out)|exact HB.out)) hb);have n6_:=Aside0.mk (hbox);have n7_:=Aside0.mk ((by rw [hg];exact (keep_size (w:=w) (g:=g) (row:=none) (by repeat (first|(with_reducible first|exact HK.out|apply KeepBut.set_|apply keep_drewN|apply keep_drew|apply keep_alloc|refine keep_far ?_ GW373.out _)|exact HK.out))):w.heap.size≤gb383));have n8_:=Aside0.mk ((Nat.le_trans HW0.out (by rw [hg];exact (keep_size (w:=w) (g:=g) (row:=none) (by repeat (first|(with_reducible first|exact HK.out|apply KeepBut.set_|apply keep_drewN|apply keep_drew|apply keep_alloc|refine keep_far ?_ GW373.out _)|exact HK.out))):w.heap.size≤gb383):w0.heap.size≤gb383));have n9_:=Aside0.mk ((by rw [hg];exact Nat.ne_of_lt (blk_lt (g:=gb373) (o:=.cells #[.int .i64 0,.slice none 0 0] 43 (0,0)) (by (with_reducible repeat (first|refine blk_drewN ?_ _|refine blk_drew ?_|refine blk_alloc ?_ _));exact BK373.out)):gb373 ≠ gb383));have n10_:=Aside0.mk ((by rw [hg];exact Nat.ne_of_gt (blk_lt (g:=gb373) (o:=.cells #[.int .i64 0,.slice none 0 0] 43 (0,0)) (by (with_reducible repeat (first|refine blk_drewN ?_ _|refine blk_drew ?_|refine blk_alloc ?_ _));exact BK373.out)):gb383 ≠ gb373));have n11_:=Aside0.mk ((by rw [hg];exact Nat.ne_of_lt (IsS142.lt (show IsS142 w0 _ g s0_0 t381 t382 from by repeat (first|(with_reducible first|exact HI0.out|apply IsS142.alloc|apply IsS142.drewN|apply IsS142.drew|apply IsS142.set_1|apply IsS142.set_2|refine IsS142.far ?_ NB0_373.out _)|exact HI0.out))):g ≠ gb383));have n12_:=Aside0.mk ((by rw [hg];exact Nat.ne_of_gt (IsS142.lt (show IsS142 w0 _ g s0_0 t381 t382 from by repeat (first|(with_reducible first|exact HI0.out|apply IsS142.alloc|apply IsS142.drewN|apply IsS142.drew|apply IsS142.set_1|apply IsS142.set_2|refine IsS142.far ?_ NB0_373.out _)|exact HI0.out))):gb383 ≠ g));clear HO376;clear HO380;clear HI0;clear BK373;clear HK;clear HB;have HO376:=n0_;have HO380:=n1_;have HI0:=n2_;have BK373:=n3_;have HK:=n4_;have HB:=n5_;have BK383:=n6_;have GW383:=n7_;have GE383:=n8_;have NB373_383:=n9_;have NB383_373:=n10_;have NB0_383:=n11_;have NB383_0:=n12_;clear n0_ n1_ n2_ n3_ n4_ n5_ n6_ n7_ n8_ n9_ n10_ n11_ n12_;clear hb hbox hg;have hnb60:=NB383_373.out;have hnc60:=NB373_383.out;have hnb61:=NB383_0.out;have hnc61:=NB0_383.out;have hcz62_0:w59.cell? ⟨gb383,0,none⟩=some (.int .i64 0):=(blk_cell BK383.out 0).trans rfl;have hcz62_1:w59.cell? ⟨gb383,1,none⟩=some (.slice none 0 0):=(blk_cell BK383.out 1).trans rfl;have hfz62_0:=blk_frozen BK383.out 0;have hfz62_1:=blk_frozen BK383.out 1;obtain ⟨Ao63,co63,eo63⟩:=Kd.S_slice HO380.out;subst eo63)|((with_reducible refine gate_callee (f:=105) rfl ?_);refine goesL_ (some 16) rfl rfl Try.func105 (by kernel_rfl) rfl #[.pointer (some ⟨g,0,none⟩),.int .i64 (t378.length:Int)] rfl (by (try simp only [List.map_toArray,List.map_cons,List.map_nil]);first|done|rfl|(simp only [List.length_drop,List.length_take];rfl)) ?_;(with_reducible refine (spec_l1Below.calls g s0_0 t381 t382 (t378.length:Int) t384 t385 t386 w0 _ ?side1 ?side2 A3.out).mono ?_);(case side1=>repeat (first|(with_reducible first|exact HI0.out|apply IsS142.alloc|apply IsS142.drewN|apply IsS142.drew|apply IsS142.set_1|apply IsS142.set_2|refine IsS142.far ?_ NB0_373.out _|refine IsS142.far ?_ NB0_383.out _)|exact HI0.out));(case side2=>repeat (first|(with_reducible first|exact HB.out|apply below_alloc|apply pw_below_drewN|apply below_drew1|refine below_set ?_ (IsS142.ge HI0.out)|refine below_set ?_ GE373.out|refine below_set ?_ GE383.out)|exact HB.out));rintro e w64 ⟨rfl,hi,hb,hk⟩;refine ⟨_,rfl,?_⟩;have n0_:=Aside0.mk (KeepBut.blk hk (g':=gb373) (o:=.cells #[.int .i64 0,.slice none 0 0] 43 (0,0)) (by (with_reducible repeat (first|refine blk_drewN ?_ _|refine blk_drew ?_|refine blk_alloc ?_ _));refine blk_far ?_ NB373_383.out _;(with_reducible repeat (first|refine blk_drewN ?_ _|refine blk_drew ?_|refine blk_alloc ?_ _));refine blk_far ?_ NB373_383.out _;(with_reducible repeat (first|refine blk_drewN ?_ _|refine blk_drew ?_|refine blk_alloc ?_ _));exact BK373.out) NB373_0.out (by simp));have n1_:=Aside0.mk (Kd.R_mono (Kd.R_keep (IsS142.apart (show IsS142 w0 _ g s0_0 t381 t382 from by repeat (first|(with_reducible first|exact HI0.out|apply IsS142.alloc|apply IsS142.drewN|apply IsS142.drew|apply IsS142.set_1|apply IsS142.set_2|refine IsS142.far ?_ NB0_373.out _|refine IsS142.far ?_ NB0_383.out _)|exact HI0.out)) (by (with_reducible repeat (first|apply Kd.R_alloc|apply Kd.R_drewN|apply Kd.R_drew));exact (Kd.R_mono (Kd.R_far (p:=⟨gb383,1,none⟩) (Kd.R_far (p:=⟨gb383,0,none⟩) (Kd.R_types HO376.out BK383.out (by decide)) (fun _ hk=>hk.2) (.int .i64 t377)) (fun _ hk=>hk.2) (.slice Ao63 t378.length co63)) (fun _ h_=>h_.1))) (by decide)) hk (fun _ h=>h.2)) (fun _ h=>h.1));have n2_:=Aside0.mk (Kd.S_mono (Kd.S_keep (IsS142.apartS (show IsS142 w0 _ g s0_0 t381 t382 from by repeat (first|(with_reducible first|exact HI0.out|apply IsS142.alloc|apply IsS142.drewN|apply IsS142.drew|apply IsS142.set_1|apply IsS142.set_2|refine IsS142.far ?_ NB0_373.out _|refine IsS142.far ?_ NB0_383.out _)|exact HI0.out)) (by (with_reducible repeat (first|apply Kd.S_alloc|apply Kd.S_drewN|apply Kd.S_drew));exact (Kd.S_mono (Kd.S_far (p:=⟨gb383,1,none⟩) (Kd.S_far (p:=⟨gb383,0,none⟩) (Kd.S_types HO380.out BK383.out (by decide)) (fun _ hk=>hk.2) (.int .i64 t377)) (fun _ hk=>hk.2) (.slice Ao63 t378.length co63)) (fun _ h_=>h_.1))) (by decide)) hk (fun _ h=>h.2)) (fun _ h=>h.1));have n3_:=Aside0.mk (KeepBut.blk hk (g':=gb383) (o:=.cells #[.int .i64 t377,.slice Ao63 t378.length co63] 43 (0,0)) (by (with_reducible repeat (first|refine blk_drewN ?_ _|refine blk_drew ?_|refine blk_alloc ?_ _));refine blk_put (cs:=#[.int .i64 t377,.slice none 0 0]) ?_ 1 _ rfl;(with_reducible repeat (first|refine blk_drewN ?_ _|refine blk_drew ?_|refine blk_alloc ?_ _));refine blk_put (cs:=#[.int .i64 0,.slice none 0 0]) ?_ 0 _ rfl;(with_reducible repeat (first|refine blk_drewN ?_ _|refine blk_drew ?_|refine blk_alloc ?_ _));exact BK383.out) NB383_0.out (by simp));have n4_:=Aside0.mk (KeepBut.trans (by repeat (first|(with_reducible first|exact HK.out|apply KeepBut.set_|apply keep_drewN|apply keep_drew|apply keep_alloc|refine keep_far ?_ GW373.out _|refine keep_far ?_ GW383.out _)|exact HK.out)) hk (.inl rfl));have n5_:=Aside0.mk (hb);have n6_:=Aside0.mk (hi);clear BK373;clear HO376;clear HO380;clear BK383;clear HK;clear HB;clear HI0;have BK373:=n0_;have HO376:=n1_;have HO380:=n2_;have BK383:=n3_;have HK:=n4_;have HB:=n5_;have HI0:=n6_;clear n0_ n1_ n2_ n3_ n4_ n5_ n6_;(try clear hb);(try clear hb2);(try clear hk);(try clear hi))|((with_reducible refine gate_callee (f:=105) rfl ?_);refine goesL_ (some 18) rfl rfl Try.func105 (by kernel_rfl) rfl #[.pointer (some ⟨g,0,none⟩),.int .i64 10] rfl (by (try simp only [List.map_toArray,List.map_cons,List.map_nil]);first|done|rfl|(simp only [List.length_drop,List.length_take];rfl)) ?_;(with_reducible refine (spec_l1Below.calls g s0_0 t385 t386 10 t387 t388 t389 w0 _ ?side1 ?side2 A4.out).mono ?_);(case side1=>repeat (first|(with_reducible first|exact HI0.out|apply IsS142.alloc|apply IsS142.drewN|apply IsS142.drew|apply IsS142.set_1|apply IsS142.set_2|refine IsS142.far ?_ NB0_373.out _|refine IsS142.far ?_ NB0_383.out _)|exact HI0.out));(case side2=>repeat (first|(with_reducible first|exact HB.out|apply below_alloc|apply pw_below_drewN|apply below_drew1|refine below_set ?_ (IsS142.ge HI0.out)|refine below_set ?_ GE373.out|refine below_set ?_ GE383.out)|exact HB.out));rintro e w65 ⟨rfl,hi,hb,hk⟩;refine ⟨_,rfl,?_⟩;have n0_:=Aside0.mk (KeepBut.blk hk (g':=gb373) (o:=.cells #[.int .i64 0,.slice none 0 0] 43 (0,0)) (by (with_reducible repeat (first|refine blk_drewN ?_ _|refine blk_drew ?_|refine blk_alloc ?_ _));exact BK373.out) NB373_0.out (by simp));have n1_:=Aside0.mk (Kd.R_mono (Kd.R_keep (IsS142.apart (show IsS142 w0 _ g s0_0 t385 t386 from by repeat (first|(with_reducible first|exact HI0.out|apply IsS142.alloc|apply IsS142.drewN|apply IsS142.drew|apply IsS142.set_1|apply IsS142.set_2|refine IsS142.far ?_ NB0_373.out _|refine IsS142.far ?_ NB0_383.out _)|exact HI0.out)) (by (with_reducible repeat (first|apply Kd.R_alloc|apply Kd.R_drewN|apply Kd.R_drew));exact HO376.out) (by decide)) hk (fun _ h=>h.2)) (fun _ h=>h.1));have n2_:=Aside0.mk (Kd.S_mono (Kd.S_keep (IsS142.apartS (show IsS142 w0 _ g s0_0 t385 t386 from by repeat (first|(with_reducible first|exact HI0.out|apply IsS142.alloc|apply IsS142.drewN|apply IsS142.drew|apply IsS142.set_1|apply IsS142.set_2|refine IsS142.far ?_ NB0_373.out _|refine IsS142.far ?_ NB0_383.out _)|exact HI0.out)) (by (with_reducible repeat (first|apply Kd.S_alloc|apply Kd.S_drewN|apply Kd.S_drew));exact HO380.out) (by decide)) hk (fun _ h=>h.2)) (fun _ h=>h.1));have n3_:=Aside0.mk (KeepBut.blk hk (g':=gb383) (o:=.cells #[.int .i64 t377,.slice Ao63 t378.length co63] 43 (0,0)) (by (with_reducible repeat (first|refine blk_drewN ?_ _|refine blk_drew ?_|refine blk_alloc ?_ _));exact BK383.out) NB383_0.out (by simp));have n4_:=Aside0.mk (KeepBut.trans (by repeat (first|(with_reducible first|exact HK.out|apply KeepBut.set_|apply keep_drewN|apply keep_drew|apply keep_alloc|refine keep_far ?_ GW373.out _|refine keep_far ?_ GW383.out _)|exact HK.out)) hk (.inl rfl));have n5_:=Aside0.mk (hb);have n6_:=Aside0.mk (hi);clear BK373;clear HO376;clear HO380;clear BK383;clear HK;clear HB;clear HI0;have BK373:=n0_;have HO376:=n1_;have HO380:=n2_;have BK383:=n3_;have HK:=n4_;have HB:=n5_;have HI0:=n6_;clear n0_ n1_ n2_ n3_ n4_ n5_ n6_;(try clear hb);(try clear hb2);(try clear hk);(try clear hi)))
       have n0_:=Aside0.mk (Kd.R_drew HO376.out)
       have n1_:=Aside0.mk (Kd.S_drew HO380.out)
       have n2_:=Aside0.mk (blk_drew BK373.out)
       have n3_:=Aside0.mk (blk_drew BK383.out)
       have n4_:=Aside0.mk (IsS142.drew HI0.out)
       have n5_:=Aside0.mk (keep_drew HK.out)
       have n6_:=Aside0.mk (below_drew1 HB.out)
       clear HO376
       clear HO380
       clear BK373
       clear BK383
       clear HI0
       clear HK
       clear HB
       have HO376:=n0_
       have HO380:=n1_
       have BK373:=n2_
       have BK383:=n3_
       have HI0:=n4_
       have HK:=n5_
       have HB:=n6_
       clear n0_ n1_ n2_ n3_ n4_ n5_ n6_
       have p404:0≤(t384:Int):=of_decide_eq_true (by first|(with_reducible assumption)|assumption)
       have q404:t384 < (t378.length:Int):=of_decide_eq_true (by first|(with_reducible assumption)|assumption)
       obtain ⟨ad404,A404_0,c404_0,e404,hx404_0,hl404_0,hi404_0⟩:=at_T29 (Kd.S_reads' HO380.out).2.2 t384 p404 q404
       cases e404
       obtain ⟨ce404,hce404,hMe404,hcc404⟩:=Kd.S_get HO380.out z29 t384 p404 (by first|exact q404|exact of_decide_eq_true (by first|(with_reducible assumption)|assumption)|(have e_:=(Kd.S_reads' HO380.out).1;omega))
       obtain ⟨ve404_0,rfl,ge404_0⟩:=k29_openM hMe404
       have hv404_0:=hcc404 0 _ rfl
       rw [Nat.add_zero,show (k29).sz=1 from rfl,Nat.mul_one] at hv404_0
       replace hv404_0:=Option.some.inj (hv404_0.symm.trans hx404_0)
       rw [hv404_0] at ge404_0
       have HL404_0:=Aside0.mk (show Kd.R (Kd.int .i64) 3 _ _ _ _ ((rd_T29 t378 t384).f0) from ge404_0)
       clear hv404_0 ge404_0
       have HX404_0:=Aside0.mk hx404_0
       clear hcc404 hce404
       have HR404_0:=Aside0.mk hi404_0
       have HC404_0:=Aside0.mk hl404_0
       clear hi404_0 hl404_0
       replace p404:=eq_true p404
       replace q404:=eq_true q404
       refine start_ (n:=10) (S:=fun w'=>w'.cell? ⟨gb383,0,none⟩=some (.int .i64 t377)∧w'.cell? ⟨gb383,1,none⟩=some (.slice (some ad404) t378.length co63)∧w'.cell? (ad404.add (t384).toNat)=some (.slice A404_0 ((rd_T29 t378 t384).f0).length c404_0)) (ds:=[9]) #[false,false,false,false,false,false,false,false,false,false] (by kernel_rfl) rfl rfl ⟨(blk_cell BK383.out 0).trans rfl,(blk_cell BK383.out 1).trans rfl,hx404_0⟩ (fun hHeld=>?_);refine with_tabW spec_l5Any.tab9 spec_l5Any.bits9 (fun HT_ HW_=>?_)
       generalize w65.drew=w66 at HO376 HO380 BK373 BK383 HI0 HK HB HL404_0 HR404_0 HX404_0 hx404_0 hHeld ⊢
       refine pure_ (i:=0) (N:=some 44) (v:=?_) (a':=?_) #[true,false,false,false,false,false,false,false,false,false] rfl rfl (any_of HT_.out (by kernel_rfl)) (fun _ _ _ h=>h) (Or.inl ⟨by rfl,?_⟩) ?_ ?_
       rotate_left
       ·intro w'
        go_simp
        with_reducible rfl
       rotate_left
       ·simp only [Act.put,List.setIfInBounds_toArray,List.set_cons_zero,List.set_cons_succ,i64_w,i32_w]
        rfl
       refine pure_ (i:=2) (N:=some 46) (v:=?_) (a':=?_) #[true,false,true,false,false,false,false,false,false,false] rfl rfl (any_of HT_.out (by kernel_rfl)) (fun _ _ _ h=>h) (Or.inl ⟨by rfl,?_⟩) ?_ ?_
       rotate_left
       ·intro w'
        go_simp
        with_reducible rfl
       rotate_left
       ·simp only [Act.put,List.setIfInBounds_toArray,List.set_cons_zero,List.set_cons_succ,i64_w,i32_w]
        rfl
       refine pure_ (i:=6) (N:=some 50) (v:=?_) (a':=?_) #[true,false,true,false,false,false,true,false,false,false] rfl rfl (any_of HT_.out (by kernel_rfl)) (fun _ _ _ h=>h) (Or.inl ⟨by rfl,?_⟩) ?_ ?_
       rotate_left
       ·intro w'
        go_simp
        with_reducible rfl
       rotate_left
       ·simp only [Act.put,List.setIfInBounds_toArray,List.set_cons_zero,List.set_cons_succ,i64_w,i32_w]
        rfl
       refine take_ (i:=1) (N:=some 45) (v:=?_) (a':=?_) #[true,true,true,false,false,false,true,false,false,false] rfl rfl (take_ofW HT_.out HW_.out (by kernel_rfl)) (fun _ _ _ h=>h) (Or.inl ⟨by rfl,?_⟩) hHeld ?_ ?_
       rotate_left
       ·rintro w' ⟨s0,s1,s2⟩
        go_simp
        with_reducible rfl
       rotate_left
       ·simp only [Act.put,List.setIfInBounds_toArray,List.set_cons_zero,List.set_cons_succ,i64_w,i32_w]
        rfl
       refine pure_ (i:=3) (N:=some 47) (v:=?_) (a':=?_) #[true,true,true,true,false,false,true,false,false,false] rfl rfl (any_of HT_.out (by kernel_rfl)) (fun _ _ _ h=>h) (Or.inl ⟨by rfl,?_⟩) ?_ ?_
       rotate_left
       ·intro w'
        go_simp
        with_reducible rfl
       rotate_left
       ·simp only [Act.put,List.setIfInBounds_toArray,List.set_cons_zero,List.set_cons_succ,i64_w,i32_w]
        rfl
       refine pure_ (i:=4) (N:=some 48) (v:=?_) (a':=?_) #[true,true,true,true,true,false,true,false,false,false] rfl rfl (any_of HT_.out (by kernel_rfl)) (fun _ _ _ h=>h) (Or.inl ⟨by rfl,?_⟩) ?_ ?_
       rotate_left
       ·intro w'
        go_simp
        with_reducible rfl
       rotate_left
       ·simp only [Act.put,List.setIfInBounds_toArray,List.set_cons_zero,List.set_cons_succ,i64_w,i32_w]
        rfl
       refine take_ (i:=5) (N:=some 49) (v:=?_) (a':=?_) #[true,true,true,true,true,true,true,false,false,false] rfl rfl (take_ofW HT_.out HW_.out (by kernel_rfl)) (fun _ _ _ h=>h) (Or.inl ⟨by rfl,?_⟩) hHeld ?_ ?_
       rotate_left
       ·rintro w' ⟨s0,s1,s2⟩
        go_simp
        with_reducible rfl
       rotate_left
       ·simp only [Act.put,List.setIfInBounds_toArray,List.set_cons_zero,List.set_cons_succ,i64_w,i32_w]
        rfl
       refine one_ (i:=7) (N:=some 51) #[true,true,true,true,true,true,true,true,false,false] rfl rfl (one_of HT_.out (by kernel_rfl)) (by decide) (fun K hK=>?_)
       refine goes_ Try.func105 (by kernel_rfl) rfl #[.pointer (some ⟨g,0,none⟩),.int .i64 9] (by rfl) rfl rfl (by (try simp only [List.map_toArray,List.map_cons,List.map_nil]);first|done|rfl|(simp only [List.length_drop,List.length_take];rfl)) ?_
       with_reducible refine (spec_l1Below.calls g s0_0 t388 t389 9 t405 t406 t407 w0 _ ?side1 ?side2 A54.out).mono ?_
       (case side1=>repeat (first|(with_reducible first|exact HI0.out|apply IsS142.alloc|apply IsS142.drewN|apply IsS142.drew|apply IsS142.set_1|apply IsS142.set_2|refine IsS142.far ?_ NB0_373.out _|refine IsS142.far ?_ NB0_383.out _)|exact HI0.out))
       (case side2=>repeat (first|(with_reducible first|exact HB.out|apply below_alloc|apply pw_below_drewN|apply below_drew1|refine below_set ?_ (IsS142.ge HI0.out)|refine below_set ?_ GE373.out|refine below_set ?_ GE383.out)|exact HB.out))
       rintro e w67 ⟨rfl,hi,hb,hk⟩
       have HS2_:=keep_cell hk (hHeld.2.2) (by first|(rw [add_block];exact Kd.own_blk (IsS142.own_neS HI0.out HO380.out (by decide)))|(show (Addr.add _ _).block ≠ _;rw [add_block];exact Kd.own_blk (IsS142.own_neS HI0.out HO380.out (by decide)))|exact Kd.own_blk (IsS142.own_neS HI0.out HO380.out (by decide)))
       refine ⟨_,rfl,?_⟩
       have n0_:=Aside0.mk (KeepBut.blk hk (g':=gb373) (o:=.cells #[.int .i64 0,.slice none 0 0] 43 (0,0)) (by (with_reducible repeat (first|refine blk_drewN ?_ _|refine blk_drew ?_|refine blk_alloc ?_ _));exact BK373.out) NB373_0.out (by simp))
       have n1_:=Aside0.mk (Kd.R_mono (Kd.R_keep (IsS142.apart (show IsS142 w0 _ g s0_0 t388 t389 from by repeat (first|(with_reducible first|exact HI0.out|apply IsS142.alloc|apply IsS142.drewN|apply IsS142.drew|apply IsS142.set_1|apply IsS142.set_2|refine IsS142.far ?_ NB0_373.out _|refine IsS142.far ?_ NB0_383.out _)|exact HI0.out)) (by (with_reducible repeat (first|apply Kd.R_alloc|apply Kd.R_drewN|apply Kd.R_drew));exact HO376.out) (by decide)) hk (fun _ h=>h.2)) (fun _ h=>h.1))
       have n2_:=Aside0.mk (Kd.S_mono (Kd.S_keep (IsS142.apartS (show IsS142 w0 _ g s0_0 t388 t389 from by repeat (first|(with_reducible first|exact HI0.out|apply IsS142.alloc|apply IsS142.drewN|apply IsS142.drew|apply IsS142.set_1|apply IsS142.set_2|refine IsS142.far ?_ NB0_373.out _|refine IsS142.far ?_ NB0_383.out _)|exact HI0.out)) (by (with_reducible repeat (first|apply Kd.S_alloc|apply Kd.S_drewN|apply Kd.S_drew));exact HO380.out) (by decide)) hk (fun _ h=>h.2)) (fun _ h=>h.1))
       have n3_:=Aside0.mk (KeepBut.blk hk (g':=gb383) (o:=.cells #[.int .i64 t377,.slice (some ad404) t378.length co63] 43 (0,0)) (by (with_reducible repeat (first|refine blk_drewN ?_ _|refine blk_drew ?_|refine blk_alloc ?_ _));exact BK383.out) NB383_0.out (by simp))
       have n4_:=Aside0.mk (Kd.R_mono (Kd.R_keep (IsS142.apart (show IsS142 w0 _ g s0_0 t388 t389 from by repeat (first|(with_reducible first|exact HI0.out|apply IsS142.alloc|apply IsS142.drewN|apply IsS142.drew|apply IsS142.set_1|apply IsS142.set_2|refine IsS142.far ?_ NB0_373.out _|refine IsS142.far ?_ NB0_383.out _)|exact HI0.out)) (by (with_reducible repeat (first|apply Kd.R_alloc|apply Kd.R_drewN|apply Kd.R_drew));exact HL404_0.out) (by decide)) hk (fun _ h=>h.2)) (fun _ h=>h.1))
       have n5_:=Aside0.mk (keep_cell hk HX404_0.out (by first|(rw [add_block];exact Kd.own_blk (IsS142.own_neS HI0.out HO380.out (by decide)))|(show (Addr.add _ _).block ≠ _;rw [add_block];exact Kd.own_blk (IsS142.own_neS HI0.out HO380.out (by decide)))|exact Kd.own_blk (IsS142.own_neS HI0.out HO380.out (by decide))|(dsimp only;exact Kd.own_blk (IsS142.own_neS HI0.out HO380.out (by decide)))))
       have n6_:=Aside0.mk (KeepBut.trans (by repeat (first|(with_reducible first|exact HK.out|apply KeepBut.set_|apply keep_drewN|apply keep_drew|apply keep_alloc|refine keep_far ?_ GW373.out _|refine keep_far ?_ GW383.out _)|exact HK.out)) hk (.inl rfl))
       have n7_:=Aside0.mk (hb)
       have n8_:=Aside0.mk (hi)
       clear BK373
       clear HO376
       clear HO380
       clear BK383
       clear HL404_0
       clear HX404_0
       clear HK
       clear HB
       clear HI0
       have BK373:=n0_
       have HO376:=n1_
       have HO380:=n2_
       have BK383:=n3_
       have HL404_0:=n4_
       have HX404_0:=n5_
       have HK:=n6_
       have HB:=n7_
       have HI0:=n8_
       clear n0_ n1_ n2_ n3_ n4_ n5_ n6_ n7_ n8_
       (try clear hb)
       (try clear hb2)
       (try clear hk)
       (try clear hi)
       have p56:0≤(0:Int):=(by omega)
       have q56:(0:Int) < ((((rd_T29 t378 t384).f0).length:Int):Int):=of_decide_eq_true (by first|(with_reducible assumption)|assumption)
       have qi56:(0 < ((rd_T29 t378 t384).f0).length)=True:=eq_true (by omega)
       obtain ⟨go56,co56,eo56,gb56,gl56,cl56,HG56⟩:=Kd.R_form HL404_0.out (by omega)
       (first|cases eo56|(injection eo56 with ea_ en_ ec_;(first|subst ea_|(injection ea_ with ea_;subst ea_));subst ec_;clear en_))
       have GB56:=Aside0.mk gb56
       have GG56:=Aside0.mk HG56
       clear gb56 gl56 HG56
       obtain ⟨hx56_0,hf56_0⟩:=Kd.R_celln 0 HL404_0.out (0:Int) p56 q56
       (try rw [show ((0:Int)).toNat=0 from rfl] at hx56_0)
       (try simp only [Nat.reduceMul,Nat.zero_mul,Nat.zero_add,Nat.reduceAdd] at hx56_0)
       (try rw [show ((0:Int)).toNat=0 from rfl] at hf56_0)
       (try simp only [Nat.reduceMul,Nat.zero_mul,Nat.zero_add,Nat.reduceAdd] at hf56_0)
       replace p56:=eq_true p56
       replace q56:=eq_true q56
       have hq68:(t384:Int) < (t378.length:Int):=(by have h_:(t384:Int) < ((t378.length:Int):Int):=of_decide_eq_true (by first|(with_reducible assumption)|assumption);first|exact h_|(have e_:=(Kd.S_reads' HO380.out).1;omega)|simpa only [List.length_set,List.length_set] using h_)
       obtain ⟨oki68,ce68,hcl68,hM68,hcc68,hok68,hbk68⟩:=Kd.S_borrow HO380.out z29 (t384:Int) (of_decide_eq_true (by first|(with_reducible assumption)|assumption)) hq68
       obtain ⟨ve68_0,rfl,ge68_0⟩:=k29_openM hM68
       have hv68:=hcc68 0 _ rfl
       rw [Nat.add_zero,show (k29).sz=1 from rfl,Nat.mul_one] at hv68
       replace hv68:=Option.some.inj (hv68.symm.trans HX404_0.out)
       subst hv68
       clear hcc68 hcl68
       replace ge68_0:=(show Kd.R (Kd.int .i64) 3 _ _ _ _ ((rd_T29 t378 t384).f0) from ge68_0)
       have HP68:=Kd.R_putg ge68_0 (0:Int) t405
       have HN0_go56:=Aside0.mk (show g ≠ go56 from by have h_:=IsS142.own_ne HI0.out HL404_0.out (by decide);intro e_;exact h_ (by rw [e_];rfl))
       rw [← Ny408.out] at HP68
       have HS68:=hbk68 HP68.2 (fun k_ e_=>by injection e_ with e_;subst e_;exact ge68_0.1 _ rfl) (x':=(⟨y408⟩:S29)) (k29_mkM _ _ _ (⟨y408⟩:S29) HP68.1)
       rw [← Ny410.out] at HS68
       have HQ68:=Aside0.mk HS68
       clear HP68 HS68 hbk68 hok68
       refine hK.out _ _ ⟨(blk_cell BK383.out 0).trans rfl,(blk_cell BK383.out 1).trans rfl,HS2_⟩ (fun hHeld=>?_)
       clear hK K
       refine norm_ (a':=?_) ?_ ?_
       rotate_left
       ·show Act.put _ (some 51) _=_
        simp only [Act.put,List.setIfInBounds_toArray,List.set_cons_zero,List.set_cons_succ,i64_w,i32_w]
        rfl
       refine pure_ (i:=8) (N:=some 52) (v:=?_) (a':=?_) #[true,true,true,true,true,true,true,true,true,false] rfl rfl (any_of HT_.out (by kernel_rfl)) (fun _ _ _ h=>h) (Or.inl ⟨by rfl,?_⟩) ?_ ?_
       rotate_left
       ·intro w'
        go_simp
        with_reducible rfl
       rotate_left
       ·simp only [Act.put,List.setIfInBounds_toArray,List.set_cons_zero,List.set_cons_succ,i64_w,i32_w]
        rfl
       refine last_ (i:=9) (N:=none) #[true,true,true,true,true,true,true,true,true,true] rfl rfl (one_of HT_.out (by kernel_rfl)) (by decide) (fun K hK=>?_)
       refine skip_ (w1:=?_) (by rfl) rfl ?_ ?_
       rotate_left
       ·go_simp
        rfl
       refine hK.out _ _ ?_
       clear hK K
       refine done_ (done_of HT_.out (by kernel_rfl)) ?_
       have n0_:Aside0 (Kd.R k76 76 (w67.setCell ⟨go56,0,none⟩ (.int .i64 t405)) w.heap.size (fun _=>True) v375 t374):=⟨by (with_reducible repeat (first|apply Kd.R_alloc|apply Kd.R_drewN|apply Kd.R_drew));exact Kd.R_mono (Kd.R_far (p:=⟨go56,0,none⟩) (Kd.R_types HO376.out GG56.out (by decide)) (fun _ hk=>hk.2) (.int .i64 t405)) (fun _ hk=>trivial)⟩
       have n1_:Aside0 (Kd.S k29 29 (w67.setCell ⟨go56,0,none⟩ (.int .i64 t405)) w.heap.size (fun _=>True) (.slice (some ad404) t378.length co63) y410):=⟨by (with_reducible repeat (first|apply Kd.S_alloc|apply Kd.S_drewN|apply Kd.S_drew));exact HQ68.out⟩
       have n2_:Aside0 ((w67.setCell ⟨go56,0,none⟩ (.int .i64 t405)).heap[gb373]?=some (.cells #[.int .i64 0,.slice none 0 0] 43 (0,0))):=⟨by (with_reducible repeat (first|refine blk_drewN ?_ _|refine blk_drew ?_|refine blk_alloc ?_ _));refine blk_far ?_ (by have h_:=Kd.R_ne HL404_0.out BK373.out (by decide);intro e_;exact h_ (by rw [e_];rfl)) _;(with_reducible repeat (first|refine blk_drewN ?_ _|refine blk_drew ?_|refine blk_alloc ?_ _));exact BK373.out⟩
       have n3_:Aside0 ((w67.setCell ⟨go56,0,none⟩ (.int .i64 t405)).heap[gb383]?=some (.cells #[.int .i64 t377,.slice (some ad404) t378.length co63] 43 (0,0))):=⟨by (with_reducible repeat (first|refine blk_drewN ?_ _|refine blk_drew ?_|refine blk_alloc ?_ _));refine blk_far ?_ (by have h_:=Kd.R_ne HL404_0.out BK383.out (by decide);intro e_;exact h_ (by rw [e_];rfl)) _;(with_reducible repeat (first|refine blk_drewN ?_ _|refine blk_drew ?_|refine blk_alloc ?_ _));exact BK383.out⟩
       have n4_:Aside0 (IsS142 w0 (w67.setCell ⟨go56,0,none⟩ (.int .i64 t405)) g s0_0 t406 t407):=⟨by repeat (first|(with_reducible first|exact HI0.out|apply IsS142.alloc|apply IsS142.drewN|apply IsS142.drew|apply IsS142.set_1|apply IsS142.set_2|refine IsS142.far ?_ HN0_go56.out _|refine IsS142.far ?_ NB0_373.out _|refine IsS142.far ?_ NB0_383.out _)|exact HI0.out)⟩
       have n5_:Aside0 (KeepBut w (w67.setCell ⟨go56,0,none⟩ (.int .i64 t405)) g none):=⟨by repeat (first|(with_reducible first|exact HK.out|apply KeepBut.set_|apply keep_drewN|apply keep_drew|apply keep_alloc|refine keep_far ?_ GB56.out _|refine keep_far ?_ GW373.out _|refine keep_far ?_ GW383.out _)|exact HK.out)⟩
       have n6_:Aside0 (Below w0.heap.size w0 (w67.setCell ⟨go56,0,none⟩ (.int .i64 t405))):=⟨by repeat (first|(with_reducible first|exact HB.out|apply below_alloc|apply pw_below_drewN|apply below_drew1|refine below_set ?_ (Nat.le_trans HL.out GB56.out)|refine below_set ?_ (IsS142.ge HI0.out)|refine below_set ?_ GE373.out|refine below_set ?_ GE383.out)|exact HB.out)⟩
       (try clear HO376)
       (try clear HO380)
       (try clear BK373)
       (try clear BK383)
       (try clear HI0)
       (try clear HK)
       (try clear HB)
       generalize (w67.setCell ⟨go56,0,none⟩ (.int .i64 t405))=w70 at n0_ n1_ n2_ n3_ n4_ n5_ n6_ ⊢
       have HO376:=n0_
       have HO380:=n1_
       have BK373:=n2_
       have BK383:=n3_
       have HI0:=n4_
       have HK:=n5_
       have HB:=n6_
       clear n0_ n1_ n2_ n3_ n4_ n5_ n6_
       try go_wp2
       have n0_:=Aside0.mk (Kd.R_drew HO376.out)
       have n1_:=Aside0.mk (Kd.S_drew HO380.out)
       have n2_:=Aside0.mk (blk_drew BK373.out)
       have n3_:=Aside0.mk (blk_drew BK383.out)
       have n4_:=Aside0.mk (IsS142.drew HI0.out)
       have n5_:=Aside0.mk (keep_drew HK.out)
       have n6_:=Aside0.mk (below_drew1 HB.out)
       clear HO376
       clear HO380
       clear BK373
       clear BK383
       clear HI0
       clear HK
       clear HB
       have HO376:=n0_
       have HO380:=n1_
       have BK373:=n2_
       have BK383:=n3_
       have HI0:=n4_
       have HK:=n5_
       have HB:=n6_
       clear n0_ n1_ n2_ n3_ n4_ n5_ n6_
       refine start_ (n:=4) (S:=fun w'=>w'.cell? ⟨gb383,0,none⟩=some (.int .i64 t377)∧w'.cell? ⟨gb383,1,none⟩=some (.slice (some ad404) t378.length co63)) (ds:=[]) #[false,false,false,false] (by kernel_rfl) rfl rfl ⟨(blk_cell BK383.out 0).trans rfl,(blk_cell BK383.out 1).trans rfl⟩ (fun hHeld=>?_)
       generalize w70.drew=w71 at HO376 HO380 BK373 BK383 HI0 HK HB hHeld ⊢
       refine pure_ (i:=0) (N:=some 63) (v:=?_) (a':=?_) #[true,false,false,false] rfl rfl (by kernel_rfl) (fun _ _ _ h=>h) (Or.inl ⟨by rfl,?_⟩) ?_ ?_
       rotate_left
       ·intro w'
        go_simp
        with_reducible rfl
       rotate_left
       ·simp only [Act.put,List.setIfInBounds_toArray,List.set_cons_zero,List.set_cons_succ,i64_w,i32_w]
        rfl
       refine pure_ (i:=2) (N:=some 2) (v:=?_) (a':=?_) #[true,false,true,false] rfl rfl (by kernel_rfl) (fun _ _ _ h=>h) (Or.inl ⟨by rfl,?_⟩) ?_ ?_
       rotate_left
       ·intro w'
        go_simp
        with_reducible rfl
       rotate_left
       ·simp only [Act.put,List.setIfInBounds_toArray,List.set_cons_zero,List.set_cons_succ,i64_w,i32_w]
        rfl
       refine take_ (i:=1) (N:=some 64) (v:=?_) (a':=?_) #[true,true,true,false] rfl rfl (by kernel_rfl) (fun _ _ _ h=>h) (Or.inl ⟨by rfl,?_⟩) hHeld ?_ ?_
       rotate_left
       ·rintro w' ⟨s0,s1⟩
        go_simp
        with_reducible rfl
       rotate_left
       ·simp only [Act.put,List.setIfInBounds_toArray,List.set_cons_zero,List.set_cons_succ,i64_w,i32_w]
        rfl
       refine one_ (i:=3) (N:=none) #[true,true,true,true] rfl rfl (by kernel_rfl) (by decide) (fun K hK=>?_)
       have hs72:w71.cell? ⟨gb373,0,none⟩=some (.int .i64 0):=(blk_cell BK373.out 0).trans rfl
       have hfs72:=blk_frozen BK373.out 0
       have hns72_1:=NB383_373.out
       have hms72_1:=NB373_383.out
       have hs73:w71.cell? ⟨gb373,1,none⟩=some (.slice none 0 0):=(blk_cell BK373.out 1).trans rfl
       have hfs73:=blk_frozen BK373.out 1
       have hns73_1:=NB383_373.out
       have hms73_1:=NB373_383.out
       refine skip_ (w1:=?_) (by rfl) rfl ?_ ?_
       rotate_left
       ·go_simp
        rfl
       refine hK.out _ _ ⟨((cell_far (p:=⟨gb373,_,none⟩) NB383_373.out _).trans (((cell_far (p:=⟨gb373,_,none⟩) NB383_373.out _).trans (hHeld.1)))),((cell_far (p:=⟨gb373,_,none⟩) NB383_373.out _).trans (((cell_far (p:=⟨gb373,_,none⟩) NB383_373.out _).trans (hHeld.2))))⟩ (fun hHeld=>?_)
       clear hK K
       refine done_ (by kernel_rfl) ?_
       try go_wp2
       refine bodyPost_ret (results_tc rfl _ _ gb373 43 #[.int .i64 t377,.slice (some ad404) t378.length co63] (0,0) _ rfl (by (with_reducible repeat (first|refine blk_drewN ?_ _|refine blk_drew ?_|refine blk_alloc ?_ _));refine blk_put (cs:=#[.int .i64 t377,.slice none 0 0]) ?_ 1 _ rfl;(with_reducible repeat (first|refine blk_drewN ?_ _|refine blk_drew ?_|refine blk_alloc ?_ _));refine blk_put (cs:=#[.int .i64 0,.slice none 0 0]) ?_ 0 _ rfl;(with_reducible repeat (first|refine blk_drewN ?_ _|refine blk_drew ?_|refine blk_alloc ?_ _));exact BK373.out) Try.underlying43 rfl (by kernel_rfl)) rfl ?_
       exact ⟨_,_,by first|rfl|(simp [errW_none,errW_some] <;> rfl)|(simp [*,errW_none,errW_some] <;> rfl),by (with_reducible repeat (first|apply Kd.R_alloc|apply Kd.R_drewN|apply Kd.R_drew));exact Kd.R_mono (Kd.R_far (p:=⟨gb373,1,none⟩) (Kd.R_far (p:=⟨gb373,0,none⟩) (Kd.R_types HO376.out BK373.out (by decide)) (fun _ hk=>hk.2) (.int .i64 t377)) (fun _ hk=>hk.2) (.slice (some ad404) t378.length co63)) (fun _ hk=>trivial),by (with_reducible repeat (first|apply Kd.S_alloc|apply Kd.S_drewN|apply Kd.S_drew));exact Kd.S_mono (Kd.S_far (p:=⟨gb373,1,none⟩) (Kd.S_far (p:=⟨gb373,0,none⟩) (Kd.S_types HO380.out BK373.out (by decide)) (fun _ hk=>hk.2) (.int .i64 t377)) (fun _ hk=>hk.2) (.slice (some ad404) t378.length co63)) (fun _ hk=>trivial),by repeat (first|(with_reducible first|exact HI0.out|apply IsS142.alloc|apply IsS142.drewN|apply IsS142.drew|apply IsS142.set_1|apply IsS142.set_2|refine IsS142.far ?_ NB0_373.out _|refine IsS142.far ?_ NB0_383.out _)|exact HI0.out),by repeat (first|(with_reducible first|exact HB.out|apply below_alloc|apply pw_below_drewN|apply below_drew1|refine below_set ?_ (IsS142.ge HI0.out)|refine below_set ?_ GE373.out|refine below_set ?_ GE383.out)|exact HB.out),by repeat (first|(with_reducible first|exact HK.out|apply KeepBut.set_|apply keep_drewN|apply keep_drew|apply keep_alloc|refine keep_far ?_ GW373.out _|refine keep_far ?_ GW383.out _)|exact HK.out)⟩
      ·rw [if_neg c55] at H
       exact absurd H (by simp)
     ·rw [if_neg c53] at H
      exact absurd H (by simp)
    ·rw [if_neg c52] at H
     exact absurd H (by simp)
   ·rw [if_neg c51] at H
    have c51b0:(t387 == 2)=false:=beq_eq_false_iff_ne.mpr c51
    have c51b1:(t387 != 2)=true:=bne_iff_ne.mpr c51
    by_cases c74:t387=3
    ·rw [if_pos c74] at H
     have c74b0:(t387 == 3)=true:=beq_iff_eq.mpr c74
     have c74b1:(t387 != 3)=false:=bne_eq_false_iff_eq.mpr c74
     clear c74
     replace H:=Option.bind_eq_some_iff.mp H
     obtain ⟨⟨t411,t414,t415⟩,A750,H⟩:=H
     replace H:(some (t411,t377,t378,t414,t415))=some (r1,r2,r3,r4,r5):=H
     have A75:=Aside0.mk A750
     clear A750
     simp only [Option.some.injEq,Prod.mk.injEq] at H
     obtain ⟨rfl,rfl,rfl,rfl,rfl⟩:=H
     go_enter Try.func104,Try.ntmps104
     try go_wp2_with (first|((with_reducible refine gate_dst (N:=3) rfl ?_);refine box_event ?hg (N:=3) ?hd (cs:=#[.int .i64 0,.slice none 0 0]) (t:=43) ?hr ?_;(case hd=>rfl);(case hg=>rfl);(case hr=>first|(go_simp;done)|(go_simp;rfl));intro gb373 hg w76 hbox hb;have n0_:=Aside0.mk (IsS142.below (by repeat (first|(with_reducible first|exact HI0.out|apply IsS142.alloc|apply IsS142.drewN|apply IsS142.drew|apply IsS142.set_1|apply IsS142.set_2)|exact HI0.out)) hb);have n1_:=Aside0.mk (KeepBut.trans (by repeat (first|(with_reducible first|exact HK.out|apply KeepBut.set_|apply keep_drewN|apply keep_drew|apply keep_alloc)|exact HK.out)) (KeepBut.of_below hb g none) (.inl rfl));have n2_:=Aside0.mk (below_step (by repeat (first|(with_reducible first|exact HB.out|apply below_alloc|apply pw_below_drewN|apply below_drew1|refine below_set ?_ (IsS142.ge HI0.out))|exact HB.out)) hb);have n3_:=Aside0.mk (hbox);have n4_:=Aside0.mk ((by rw [hg];exact (keep_size (w:=w) (g:=g) (row:=none) (by repeat (first|(with_reducible first|exact HK.out|apply KeepBut.set_|apply keep_drewN|apply keep_drew|apply keep_alloc)|exact HK.out))):w.heap.size≤gb373));have n5_:=Aside0.mk ((Nat.le_trans HW0.out (by rw [hg];exact (keep_size (w:=w) (g:=g) (row:=none) (by repeat (first|(with_reducible first|exact HK.out|apply KeepBut.set_|apply keep_drewN|apply keep_drew|apply keep_alloc)|exact HK.out))):w.heap.size≤gb373):w0.heap.size≤gb373));have n6_:=Aside0.mk ((by rw [hg];exact Nat.ne_of_lt (IsS142.lt (show IsS142 w0 _ g s0_0 s0_1 s0_2 from by repeat (first|(with_reducible first|exact HI0.out|apply IsS142.alloc|apply IsS142.drewN|apply IsS142.drew|apply IsS142.set_1|apply IsS142.set_2)|exact HI0.out))):g ≠ gb373));have n7_:=Aside0.mk ((by rw [hg];exact Nat.ne_of_gt (IsS142.lt (show IsS142 w0 _ g s0_0 s0_1 s0_2 from by repeat (first|(with_reducible first|exact HI0.out|apply IsS142.alloc|apply IsS142.drewN|apply IsS142.drew|apply IsS142.set_1|apply IsS142.set_2)|exact HI0.out))):gb373 ≠ g));clear HI0;clear HK;clear HB;have HI0:=n0_;have HK:=n1_;have HB:=n2_;have BK373:=n3_;have GW373:=n4_;have GE373:=n5_;have NB0_373:=n6_;have NB373_0:=n7_;clear n0_ n1_ n2_ n3_ n4_ n5_ n6_ n7_;clear hb hbox hg)|((with_reducible refine gate_callee (f:=123) rfl ?_);refine goesL_ (some 9) rfl rfl Try.func123 (by kernel_rfl) rfl #[.pointer (some ⟨g,0,none⟩)] rfl (by (try simp only [List.map_toArray,List.map_cons,List.map_nil]);first|done|rfl|(simp only [List.length_drop,List.length_take];rfl)) ?_;(with_reducible refine (spec_l5Draw.calls k g s0_0 s0_1 s0_2 t374 t377 t378 t381 t382 w0 _ ?side1 ?side2 A2.out).mono ?_);(case side1=>repeat (first|(with_reducible first|exact HI0.out|apply IsS142.alloc|apply IsS142.drewN|apply IsS142.drew|apply IsS142.set_1|apply IsS142.set_2|refine IsS142.far ?_ NB0_373.out _)|exact HI0.out));(case side2=>repeat (first|(with_reducible first|exact HB.out|apply below_alloc|apply pw_below_drewN|apply below_drew1|refine below_set ?_ (IsS142.ge HI0.out)|refine below_set ?_ GE373.out)|exact HB.out));rintro e w77 ⟨v375,v379,rfl,ho0,ho1,hi,hb,hk⟩;refine ⟨_,rfl,?_⟩;have n0_:=Aside0.mk (KeepBut.blk hk (g':=gb373) (o:=.cells #[.int .i64 0,.slice none 0 0] 43 (0,0)) (by (with_reducible repeat (first|refine blk_drewN ?_ _|refine blk_drew ?_|refine blk_alloc ?_ _));exact BK373.out) NB373_0.out (by simp));have n1_:=Aside0.mk (Kd.R_lower ho0 (keep_size (w:=w) (g:=g) (row:=none) (by repeat (first|(with_reducible first|exact HK.out|apply KeepBut.set_|apply keep_drewN|apply keep_drew|apply keep_alloc|refine keep_far ?_ GW373.out _)|exact HK.out))));have n2_:=Aside0.mk (Kd.S_lower ho1 (keep_size (w:=w) (g:=g) (row:=none) (by repeat (first|(with_reducible first|exact HK.out|apply KeepBut.set_|apply keep_drewN|apply keep_drew|apply keep_alloc|refine keep_far ?_ GW373.out _)|exact HK.out))));have n3_:=Aside0.mk (KeepBut.trans (by repeat (first|(with_reducible first|exact HK.out|apply KeepBut.set_|apply keep_drewN|apply keep_drew|apply keep_alloc|refine keep_far ?_ GW373.out _)|exact HK.out)) hk (.inl rfl));have n4_:=Aside0.mk (hb);have n5_:=Aside0.mk (hi);clear BK373;clear HK;clear HB;clear HI0;have BK373:=n0_;have HO376:=n1_;have HO380:=n2_;have HK:=n3_;have HB:=n4_;have HI0:=n5_;clear n0_ n1_ n2_ n3_ n4_ n5_;(try clear hb);(try clear hb2);(try clear hk);(try clear hi);(try clear ho0);(try clear ho1))|((with_reducible refine gate_dst (N:=5) rfl ?_);refine box_event ?hg (N:=5) ?hd (cs:=#[.int .i64 0,.slice none 0 0]) (t:=43) ?hr ?_;(case hd=>rfl);(case hg=>rfl);(case hr=>first|(go_simp;done)|(go_simp;rfl));intro gb383 hg w78 hbox hb;have n0_:=Aside0.mk (Kd.R_below (by (with_reducible repeat (first|apply Kd.R_alloc|apply Kd.R_drewN|apply Kd.R_drew));exact HO376.out) hb);have n1_:=Aside0.mk (Kd.S_below (by (with_reducible repeat (first|apply Kd.S_alloc|apply Kd.S_drewN|apply Kd.S_drew));exact HO380.out) hb);have n2_:=Aside0.mk (IsS142.below (by repeat (first|(with_reducible first|exact HI0.out|apply IsS142.alloc|apply IsS142.drewN|apply IsS142.drew|apply IsS142.set_1|apply IsS142.set_2|refine IsS142.far ?_ NB0_373.out _)|exact HI0.out)) hb);have n3_:=Aside0.mk (blk_below (g:=gb373) (o:=.cells #[.int .i64 0,.slice none 0 0] 43 (0,0)) (by (with_reducible repeat (first|refine blk_drewN ?_ _|refine blk_drew ?_|refine blk_alloc ?_ _));exact BK373.out) hb);have n4_:=Aside0.mk (KeepBut.trans (by repeat (first|(with_reducible first|exact HK.out|apply KeepBut.set_|apply keep_drewN|apply keep_drew|apply keep_alloc|refine keep_far ?_ GW373.out _)|exact HK.out)) (KeepBut.of_below hb g none) (.inl rfl));have n5_:=Aside0.mk (below_step (by repeat (first|(with_reducible first|exact HB.out|apply below_alloc|apply pw_below_drewN|apply below_drew1|refine below_set ?_ (IsS142.ge HI0.out)|refine below_set ?_ GE373.out)|exact HB.out)) hb);have n6_:=Aside0.mk (hbox);have n7_:=Aside0.mk ((by rw [hg];exact (keep_size (w:=w) (g:=g) (row:=none) (by repeat (first|(with_reducible first|exact HK.out|apply KeepBut.set_|apply keep_drewN|apply keep_drew|apply keep_alloc|refine keep_far ?_ GW373.out _)|exact HK.out))):w.heap.size≤gb383));have n8_:=Aside0.mk ((Nat.le_trans HW0.out (by rw [hg];exact (keep_size (w:=w) (g:=g) (row:=none) (by repeat (first|(with_reducible first|exact HK.out|apply KeepBut.set_|apply keep_drewN|apply keep_drew|apply keep_alloc|refine keep_far ?_ GW373.out _)|exact HK.out))):w.heap.size≤gb383):w0.heap.size≤gb383));have n9_:=Aside0.mk ((by rw [hg];exact Nat.ne_of_lt (blk_lt (g:=gb373) (o:=.cells #[.int .i64 0,.slice none 0 0] 43 (0,0)) (by (with_reducible repeat (first|refine blk_drewN ?_ _|refine blk_drew ?_|refine blk_alloc ?_ _));exact BK373.out)):gb373 ≠ gb383));have n10_:=Aside0.mk ((by rw [hg];exact Nat.ne_of_gt (blk_lt (g:=gb373) (o:=.cells #[.int .i64 0,.slice none 0 0] 43 (0,0)) (by (with_reducible repeat (first|refine blk_drewN ?_ _|refine blk_drew ?_|refine blk_alloc ?_ _));exact BK373.out)):gb383 ≠ gb373));have n11_:=Aside0.mk ((by rw [hg];exact Nat.ne_of_lt (IsS142.lt (show IsS142 w0 _ g s0_0 t381 t382 from by repeat (first|(with_reducible first|exact HI0.out|apply IsS142.alloc|apply IsS142.drewN|apply IsS142.drew|apply IsS142.set_1|apply IsS142.set_2|refine IsS142.far ?_ NB0_373.out _)|exact HI0.out))):g ≠ gb383));have n12_:=Aside0.mk ((by rw [hg];exact Nat.ne_of_gt (IsS142.lt (show IsS142 w0 _ g s0_0 t381 t382 from by repeat (first|(with_reducible first|exact HI0.out|apply IsS142.alloc|apply IsS142.drewN|apply IsS142.drew|apply IsS142.set_1|apply IsS142.set_2|refine IsS142.far ?_ NB0_373.out _)|exact HI0.out))):gb383 ≠ g));clear HO376;clear HO380;clear HI0;clear BK373;clear HK;clear HB;have HO376:=n0_;have HO380:=n1_;have HI0:=n2_;have BK373:=n3_;have HK:=n4_;have HB:=n5_;have BK383:=n6_;have GW383:=n7_;have GE383:=n8_;have NB373_383:=n9_;have NB383_373:=n10_;have NB0_383:=n11_;have NB383_0:=n12_;clear n0_ n1_ n2_ n3_ n4_ n5_ n6_ n7_ n8_ n9_ n10_ n11_ n12_;clear hb hbox hg;have hnb79:=NB383_373.out;have hnc79:=NB373_383.out;have hnb80:=NB383_0.out;have hnc80:=NB0_383.out;have hcz81_0:w78.cell? ⟨gb383,0,none⟩=some (.int .i64 0):=(blk_cell BK383.out 0).trans rfl;have hcz81_1:w78.cell? ⟨gb383,1,none⟩=some (.slice none 0 0):=(blk_cell BK383.out 1).trans rfl;have hfz81_0:=blk_frozen BK383.out 0;have hfz81_1:=blk_frozen BK383.out 1;obtain ⟨Ao82,co82,eo82⟩:=Kd.S_slice HO380.out;subst eo82)|((with_reducible refine gate_callee (f:=105) rfl ?_);refine goesL_ (some 16) rfl rfl Try.func105 (by kernel_rfl) rfl #[.pointer (some ⟨g,0,none⟩),.int .i64 (t378.length:Int)] rfl (by (try simp only [List.map_toArray,List.map_cons,List.map_nil]);first|done|rfl|(simp only [List.length_drop,List.length_take];rfl)) ?_;(with_reducible refine (spec_l1Below.calls g s0_0 t381 t382 (t378.length:Int) t384 t385 t386 w0 _ ?side1 ?side2 A3.out).mono ?_);(case side1=>repeat (first|(with_reducible first|exact HI0.out|apply IsS142.alloc|apply IsS142.drewN|apply IsS142.drew|apply IsS142.set_1|apply IsS142.set_2|refine IsS142.far ?_ NB0_373.out _|refine IsS142.far ?_ NB0_383.out _)|exact HI0.out));(case side2=>repeat (first|(with_reducible first|exact HB.out|apply below_alloc|apply pw_below_drewN|apply below_drew1|refine below_set ?_ (IsS142.ge HI0.out)|refine below_set ?_ GE373.out|refine below_set ?_ GE383.out)|exact HB.out));rintro e w83 ⟨rfl,hi,hb,hk⟩;refine ⟨_,rfl,?_⟩;have n0_:=Aside0.mk (KeepBut.blk hk (g':=gb373) (o:=.cells #[.int .i64 0,.slice none 0 0] 43 (0,0)) (by (with_reducible repeat (first|refine blk_drewN ?_ _|refine blk_drew ?_|refine blk_alloc ?_ _));refine blk_far ?_ NB373_383.out _;(with_reducible repeat (first|refine blk_drewN ?_ _|refine blk_drew ?_|refine blk_alloc ?_ _));refine blk_far ?_ NB373_383.out _;(with_reducible repeat (first|refine blk_drewN ?_ _|refine blk_drew ?_|refine blk_alloc ?_ _));exact BK373.out) NB373_0.out (by simp));have n1_:=Aside0.mk (Kd.R_mono (Kd.R_keep (IsS142.apart (show IsS142 w0 _ g s0_0 t381 t382 from by repeat (first|(with_reducible first|exact HI0.out|apply IsS142.alloc|apply IsS142.drewN|apply IsS142.drew|apply IsS142.set_1|apply IsS142.set_2|refine IsS142.far ?_ NB0_373.out _|refine IsS142.far ?_ NB0_383.out _)|exact HI0.out)) (by (with_reducible repeat (first|apply Kd.R_alloc|apply Kd.R_drewN|apply Kd.R_drew));exact (Kd.R_mono (Kd.R_far (p:=⟨gb383,1,none⟩) (Kd.R_far (p:=⟨gb383,0,none⟩) (Kd.R_types HO376.out BK383.out (by decide)) (fun _ hk=>hk.2) (.int .i64 t377)) (fun _ hk=>hk.2) (.slice Ao82 t378.length co82)) (fun _ h_=>h_.1))) (by decide)) hk (fun _ h=>h.2)) (fun _ h=>h.1));have n2_:=Aside0.mk (Kd.S_mono (Kd.S_keep (IsS142.apartS (show IsS142 w0 _ g s0_0 t381 t382 from by repeat (first|(with_reducible first|exact HI0.out|apply IsS142.alloc|apply IsS142.drewN|apply IsS142.drew|apply IsS142.set_1|apply IsS142.set_2|refine IsS142.far ?_ NB0_373.out _|refine IsS142.far ?_ NB0_383.out _)|exact HI0.out)) (by (with_reducible repeat (first|apply Kd.S_alloc|apply Kd.S_drewN|apply Kd.S_drew));exact (Kd.S_mono (Kd.S_far (p:=⟨gb383,1,none⟩) (Kd.S_far (p:=⟨gb383,0,none⟩) (Kd.S_types HO380.out BK383.out (by decide)) (fun _ hk=>hk.2) (.int .i64 t377)) (fun _ hk=>hk.2) (.slice Ao82 t378.length co82)) (fun _ h_=>h_.1))) (by decide)) hk (fun _ h=>h.2)) (fun _ h=>h.1));have n3_:=Aside0.mk (KeepBut.blk hk (g':=gb383) (o:=.cells #[.int .i64 t377,.slice Ao82 t378.length co82] 43 (0,0)) (by (with_reducible repeat (first|refine blk_drewN ?_ _|refine blk_drew ?_|refine blk_alloc ?_ _));refine blk_put (cs:=#[.int .i64 t377,.slice none 0 0]) ?_ 1 _ rfl;(with_reducible repeat (first|refine blk_drewN ?_ _|refine blk_drew ?_|refine blk_alloc ?_ _));refine blk_put (cs:=#[.int .i64 0,.slice none 0 0]) ?_ 0 _ rfl;(with_reducible repeat (first|refine blk_drewN ?_ _|refine blk_drew ?_|refine blk_alloc ?_ _));exact BK383.out) NB383_0.out (by simp));have n4_:=Aside0.mk (KeepBut.trans (by repeat (first|(with_reducible first|exact HK.out|apply KeepBut.set_|apply keep_drewN|apply keep_drew|apply keep_alloc|refine keep_far ?_ GW373.out _|refine keep_far ?_ GW383.out _)|exact HK.out)) hk (.inl rfl));have n5_:=Aside0.mk (hb);have n6_:=Aside0.mk (hi);clear BK373;clear HO376;clear HO380;clear BK383;clear HK;clear HB;clear HI0;have BK373:=n0_;have HO376:=n1_;have HO380:=n2_;have BK383:=n3_;have HK:=n4_;have HB:=n5_;have HI0:=n6_;clear n0_ n1_ n2_ n3_ n4_ n5_ n6_;(try clear hb);(try clear hb2);(try clear hk);(try clear hi))|((with_reducible refine gate_callee (f:=105) rfl ?_);refine goesL_ (some 18) rfl rfl Try.func105 (by kernel_rfl) rfl #[.pointer (some ⟨g,0,none⟩),.int .i64 10] rfl (by (try simp only [List.map_toArray,List.map_cons,List.map_nil]);first|done|rfl|(simp only [List.length_drop,List.length_take];rfl)) ?_;(with_reducible refine (spec_l1Below.calls g s0_0 t385 t386 10 t387 t388 t389 w0 _ ?side1 ?side2 A4.out).mono ?_);(case side1=>repeat (first|(with_reducible first|exact HI0.out|apply IsS142.alloc|apply IsS142.drewN|apply IsS142.drew|apply IsS142.set_1|apply IsS142.set_2|refine IsS142.far ?_ NB0_373.out _|refine IsS142.far ?_ NB0_383.out _)|exact HI0.out));(case side2=>repeat (first|(with_reducible first|exact HB.out|apply below_alloc|apply pw_below_drewN|apply below_drew1|refine below_set ?_ (IsS142.ge HI0.out)|refine below_set ?_ GE373.out|refine below_set ?_ GE383.out)|exact HB.out));rintro e w84 ⟨rfl,hi,hb,hk⟩;refine ⟨_,rfl,?_⟩;have n0_:=Aside0.mk (KeepBut.blk hk (g':=gb373) (o:=.cells #[.int .i64 0,.slice none 0 0] 43 (0,0)) (by (with_reducible repeat (first|refine blk_drewN ?_ _|refine blk_drew ?_|refine blk_alloc ?_ _));exact BK373.out) NB373_0.out (by simp));have n1_:=Aside0.mk (Kd.R_mono (Kd.R_keep (IsS142.apart (show IsS142 w0 _ g s0_0 t385 t386 from by repeat (first|(with_reducible first|exact HI0.out|apply IsS142.alloc|apply IsS142.drewN|apply IsS142.drew|apply IsS142.set_1|apply IsS142.set_2|refine IsS142.far ?_ NB0_373.out _|refine IsS142.far ?_ NB0_383.out _)|exact HI0.out)) (by (with_reducible repeat (first|apply Kd.R_alloc|apply Kd.R_drewN|apply Kd.R_drew));exact HO376.out) (by decide)) hk (fun _ h=>h.2)) (fun _ h=>h.1));have n2_:=Aside0.mk (Kd.S_mono (Kd.S_keep (IsS142.apartS (show IsS142 w0 _ g s0_0 t385 t386 from by repeat (first|(with_reducible first|exact HI0.out|apply IsS142.alloc|apply IsS142.drewN|apply IsS142.drew|apply IsS142.set_1|apply IsS142.set_2|refine IsS142.far ?_ NB0_373.out _|refine IsS142.far ?_ NB0_383.out _)|exact HI0.out)) (by (with_reducible repeat (first|apply Kd.S_alloc|apply Kd.S_drewN|apply Kd.S_drew));exact HO380.out) (by decide)) hk (fun _ h=>h.2)) (fun _ h=>h.1));have n3_:=Aside0.mk (KeepBut.blk hk (g':=gb383) (o:=.cells #[.int .i64 t377,.slice Ao82 t378.length co82] 43 (0,0)) (by (with_reducible repeat (first|refine blk_drewN ?_ _|refine blk_drew ?_|refine blk_alloc ?_ _));exact BK383.out) NB383_0.out (by simp));have n4_:=Aside0.mk (KeepBut.trans (by repeat (first|(with_reducible first|exact HK.out|apply KeepBut.set_|apply keep_drewN|apply keep_drew|apply keep_alloc|refine keep_far ?_ GW373.out _|refine keep_far ?_ GW383.out _)|exact HK.out)) hk (.inl rfl));have n5_:=Aside0.mk (hb);have n6_:=Aside0.mk (hi);clear BK373;clear HO376;clear HO380;clear BK383;clear HK;clear HB;clear HI0;have BK373:=n0_;have HO376:=n1_;have HO380:=n2_;have BK383:=n3_;have HK:=n4_;have HB:=n5_;have HI0:=n6_;clear n0_ n1_ n2_ n3_ n4_ n5_ n6_;(try clear hb);(try clear hb2);(try clear hk);(try clear hi))|((with_reducible refine gate_callee (f:=125) rfl ?_);refine goesL_ (some 56) rfl rfl Try.func125 (by kernel_rfl) rfl #[.pointer (some ⟨g,0,none⟩)] rfl (by (try simp only [List.map_toArray,List.map_cons,List.map_nil]);first|done|rfl|(simp only [List.length_drop,List.length_take];rfl)) ?_;(with_reducible refine (spec_l4Any.calls k g s0_0 t388 t389 t411 t414 t415 w0 _ ?side1 ?side2 A75.out).mono ?_);(case side1=>repeat (first|(with_reducible first|exact HI0.out|apply IsS142.alloc|apply IsS142.drewN|apply IsS142.drew|apply IsS142.set_1|apply IsS142.set_2|refine IsS142.far ?_ NB0_373.out _|refine IsS142.far ?_ NB0_383.out _)|exact HI0.out));(case side2=>repeat (first|(with_reducible first|exact HB.out|apply below_alloc|apply pw_below_drewN|apply below_drew1|refine below_set ?_ (IsS142.ge HI0.out)|refine below_set ?_ GE373.out|refine below_set ?_ GE383.out)|exact HB.out));rintro e w85 ⟨v412,rfl,ho0,hi,hb,hk⟩;refine ⟨_,rfl,?_⟩;have n0_:=Aside0.mk (KeepBut.blk hk (g':=gb373) (o:=.cells #[.int .i64 0,.slice none 0 0] 43 (0,0)) (by (with_reducible repeat (first|refine blk_drewN ?_ _|refine blk_drew ?_|refine blk_alloc ?_ _));exact BK373.out) NB373_0.out (by simp));have n1_:=Aside0.mk (Kd.R_mono (Kd.R_told (Kd.R_oldK (IsS142.apart (show IsS142 w0 _ g s0_0 t388 t389 from by repeat (first|(with_reducible first|exact HI0.out|apply IsS142.alloc|apply IsS142.drewN|apply IsS142.drew|apply IsS142.set_1|apply IsS142.set_2|refine IsS142.far ?_ NB0_373.out _|refine IsS142.far ?_ NB0_383.out _)|exact HI0.out)) (by (with_reducible repeat (first|apply Kd.R_alloc|apply Kd.R_drewN|apply Kd.R_drew));exact HO376.out) (by decide)) hk) (Kd.R_base ho0)) (fun _ h_=>h_.1));have n2_:=Aside0.mk (Kd.S_mono (Kd.S_keep (IsS142.apartS (show IsS142 w0 _ g s0_0 t388 t389 from by repeat (first|(with_reducible first|exact HI0.out|apply IsS142.alloc|apply IsS142.drewN|apply IsS142.drew|apply IsS142.set_1|apply IsS142.set_2|refine IsS142.far ?_ NB0_373.out _|refine IsS142.far ?_ NB0_383.out _)|exact HI0.out)) (by (with_reducible repeat (first|apply Kd.S_alloc|apply Kd.S_drewN|apply Kd.S_drew));exact HO380.out) (by decide)) hk (fun _ h=>h.2)) (fun _ h=>h.1));have n3_:=Aside0.mk (KeepBut.blk hk (g':=gb383) (o:=.cells #[.int .i64 t377,.slice Ao82 t378.length co82] 43 (0,0)) (by (with_reducible repeat (first|refine blk_drewN ?_ _|refine blk_drew ?_|refine blk_alloc ?_ _));exact BK383.out) NB383_0.out (by simp));have n4_:=Aside0.mk (Kd.R_lower (Kd.R_new' ho0 (Kd.R_lt (by (with_reducible repeat (first|apply Kd.R_alloc|apply Kd.R_drewN|apply Kd.R_drew));exact HO376.out))) (keep_size (w:=w) (g:=g) (row:=none) (by repeat (first|(with_reducible first|exact HK.out|apply KeepBut.set_|apply keep_drewN|apply keep_drew|apply keep_alloc|refine keep_far ?_ GW373.out _|refine keep_far ?_ GW383.out _)|exact HK.out))));have n5_:=Aside0.mk (KeepBut.trans (by repeat (first|(with_reducible first|exact HK.out|apply KeepBut.set_|apply keep_drewN|apply keep_drew|apply keep_alloc|refine keep_far ?_ GW373.out _|refine keep_far ?_ GW383.out _)|exact HK.out)) hk (.inl rfl));have n6_:=Aside0.mk (hb);have n7_:=Aside0.mk (hi);clear BK373;clear HO376;clear HO380;clear BK383;clear HK;clear HB;clear HI0;have BK373:=n0_;have HO376:=n1_;have HO380:=n2_;have BK383:=n3_;have HO413:=n4_;have HK:=n5_;have HB:=n6_;have HI0:=n7_;clear n0_ n1_ n2_ n3_ n4_ n5_ n6_ n7_;(try clear hb);(try clear hb2);(try clear hk);(try clear hi);(try clear ho0)))
     have n0_:=Aside0.mk (Kd.R_drew HO376.out)
     have n1_:=Aside0.mk (Kd.S_drew HO380.out)
     have n2_:=Aside0.mk (Kd.R_drew HO413.out)
     have n3_:=Aside0.mk (blk_drew BK373.out)
     have n4_:=Aside0.mk (blk_drew BK383.out)
     have n5_:=Aside0.mk (IsS142.drew HI0.out)
     have n6_:=Aside0.mk (keep_drew HK.out)
     have n7_:=Aside0.mk (below_drew1 HB.out)
     clear HO376
     clear HO380
     clear HO413
     clear BK373
     clear BK383
     clear HI0
     clear HK
     clear HB
     have HO376:=n0_
     have HO380:=n1_
     have HO413:=n2_
     have BK373:=n3_
     have BK383:=n4_
     have HI0:=n5_
     have HK:=n6_
     have HB:=n7_
     clear n0_ n1_ n2_ n3_ n4_ n5_ n6_ n7_
     refine start_ (n:=4) (S:=fun w'=>w'.cell? ⟨gb383,0,none⟩=some (.int .i64 t377)∧w'.cell? ⟨gb383,1,none⟩=some (.slice Ao82 t378.length co82)) (ds:=[]) #[false,false,false,false] (by kernel_rfl) rfl rfl ⟨(blk_cell BK383.out 0).trans rfl,(blk_cell BK383.out 1).trans rfl⟩ (fun hHeld=>?_)
     generalize w85.drew=w86 at HO376 HO380 HO413 BK373 BK383 HI0 HK HB hHeld ⊢
     refine pure_ (i:=0) (N:=some 63) (v:=?_) (a':=?_) #[true,false,false,false] rfl rfl (by kernel_rfl) (fun _ _ _ h=>h) (Or.inl ⟨by rfl,?_⟩) ?_ ?_
     rotate_left
     ·intro w'
      go_simp
      with_reducible rfl
     rotate_left
     ·simp only [Act.put,List.setIfInBounds_toArray,List.set_cons_zero,List.set_cons_succ,i64_w,i32_w]
      rfl
     refine pure_ (i:=2) (N:=some 2) (v:=?_) (a':=?_) #[true,false,true,false] rfl rfl (by kernel_rfl) (fun _ _ _ h=>h) (Or.inl ⟨by rfl,?_⟩) ?_ ?_
     rotate_left
     ·intro w'
      go_simp
      with_reducible rfl
     rotate_left
     ·simp only [Act.put,List.setIfInBounds_toArray,List.set_cons_zero,List.set_cons_succ,i64_w,i32_w]
      rfl
     refine take_ (i:=1) (N:=some 64) (v:=?_) (a':=?_) #[true,true,true,false] rfl rfl (by kernel_rfl) (fun _ _ _ h=>h) (Or.inl ⟨by rfl,?_⟩) hHeld ?_ ?_
     rotate_left
     ·rintro w' ⟨s0,s1⟩
      go_simp
      with_reducible rfl
     rotate_left
     ·simp only [Act.put,List.setIfInBounds_toArray,List.set_cons_zero,List.set_cons_succ,i64_w,i32_w]
      rfl
     refine one_ (i:=3) (N:=none) #[true,true,true,true] rfl rfl (by kernel_rfl) (by decide) (fun K hK=>?_)
     have hs87:w86.cell? ⟨gb373,0,none⟩=some (.int .i64 0):=(blk_cell BK373.out 0).trans rfl
     have hfs87:=blk_frozen BK373.out 0
     have hns87_1:=NB383_373.out
     have hms87_1:=NB373_383.out
     have hs88:w86.cell? ⟨gb373,1,none⟩=some (.slice none 0 0):=(blk_cell BK373.out 1).trans rfl
     have hfs88:=blk_frozen BK373.out 1
     have hns88_1:=NB383_373.out
     have hms88_1:=NB373_383.out
     refine skip_ (w1:=?_) (by rfl) rfl ?_ ?_
     rotate_left
     ·go_simp
      rfl
     refine hK.out _ _ ⟨((cell_far (p:=⟨gb373,_,none⟩) NB383_373.out _).trans (((cell_far (p:=⟨gb373,_,none⟩) NB383_373.out _).trans (hHeld.1)))),((cell_far (p:=⟨gb373,_,none⟩) NB383_373.out _).trans (((cell_far (p:=⟨gb373,_,none⟩) NB383_373.out _).trans (hHeld.2))))⟩ (fun hHeld=>?_)
     clear hK K
     refine done_ (by kernel_rfl) ?_
     try go_wp2
     refine bodyPost_ret (results_tc rfl _ _ gb373 43 #[.int .i64 t377,.slice Ao82 t378.length co82] (0,0) _ rfl (by (with_reducible repeat (first|refine blk_drewN ?_ _|refine blk_drew ?_|refine blk_alloc ?_ _));refine blk_put (cs:=#[.int .i64 t377,.slice none 0 0]) ?_ 1 _ rfl;(with_reducible repeat (first|refine blk_drewN ?_ _|refine blk_drew ?_|refine blk_alloc ?_ _));refine blk_put (cs:=#[.int .i64 0,.slice none 0 0]) ?_ 0 _ rfl;(with_reducible repeat (first|refine blk_drewN ?_ _|refine blk_drew ?_|refine blk_alloc ?_ _));exact BK373.out) Try.underlying43 rfl (by kernel_rfl)) rfl ?_
     exact ⟨_,_,by first|rfl|(simp [errW_none,errW_some] <;> rfl)|(simp [*,errW_none,errW_some] <;> rfl),by (with_reducible repeat (first|apply Kd.R_alloc|apply Kd.R_drewN|apply Kd.R_drew));exact Kd.R_mono (Kd.R_far (p:=⟨gb373,1,none⟩) (Kd.R_far (p:=⟨gb373,0,none⟩) (Kd.R_types HO413.out BK373.out (by decide)) (fun _ hk=>hk.2) (.int .i64 t377)) (fun _ hk=>hk.2) (.slice Ao82 t378.length co82)) (fun _ hk=>trivial),by (with_reducible repeat (first|apply Kd.S_alloc|apply Kd.S_drewN|apply Kd.S_drew));exact Kd.S_mono (Kd.S_far (p:=⟨gb373,1,none⟩) (Kd.S_far (p:=⟨gb373,0,none⟩) (Kd.S_types HO380.out BK373.out (by decide)) (fun _ hk=>hk.2) (.int .i64 t377)) (fun _ hk=>hk.2) (.slice Ao82 t378.length co82)) (fun _ hk=>trivial),by repeat (first|(with_reducible first|exact HI0.out|apply IsS142.alloc|apply IsS142.drewN|apply IsS142.drew|apply IsS142.set_1|apply IsS142.set_2|refine IsS142.far ?_ NB0_373.out _|refine IsS142.far ?_ NB0_383.out _)|exact HI0.out),by repeat (first|(with_reducible first|exact HB.out|apply below_alloc|apply pw_below_drewN|apply below_drew1|refine below_set ?_ (IsS142.ge HI0.out)|refine below_set ?_ GE373.out|refine below_set ?_ GE383.out)|exact HB.out),by repeat (first|(with_reducible first|exact HK.out|apply KeepBut.set_|apply keep_drewN|apply keep_drew|apply keep_alloc|refine keep_far ?_ GW373.out _|refine keep_far ?_ GW383.out _)|exact HK.out)⟩
    ·rw [if_neg c74] at H
     have c74b0:(t387 == 3)=false:=beq_eq_false_iff_ne.mpr c74
     have c74b1:(t387 != 3)=true:=bne_iff_ne.mpr c74
     by_cases c89:t387=4
     ·rw [if_pos c89] at H
      have c89b0:(t387 == 4)=true:=beq_iff_eq.mpr c89
      have c89b1:(t387 != 4)=false:=bne_eq_false_iff_eq.mpr c89
      clear c89
      by_cases c90:0≤(t378.length:Int)
      ·rw [if_pos c90] at H
       have c90b0:=eq_true c90
       have c90b1:decide (0≤(t378.length:Int))=true:=decide_eq_true c90
       clear c90
       obtain ⟨y416,hy416⟩ : ∃ y_:List (S29),y_=(t378.take (0:Int).toNat):=⟨_,rfl⟩
       replace H:(some (t374,t377,y416,t388,t389))=some (r1,r2,r3,r4,r5):=by first|(rw [hy416];with_reducible exact H)|(have H2_:=(Option.bind_some _ _).symm.trans H;rw [hy416];with_reducible exact H2_)|(have H2_:=(Option.bind_some _ _).symm.trans H;with_reducible exact H2_)|with_reducible exact H|(rw [hy416];exact H)|exact H
       have Ny416:=Aside0.mk hy416
       clear hy416
       simp only [Option.some.injEq,Prod.mk.injEq] at H
       obtain ⟨rfl,rfl,rfl,rfl,rfl⟩:=H
       go_enter Try.func104,Try.ntmps104
       try go_wp2_with (first|((with_reducible refine gate_dst (N:=3) rfl ?_);refine box_event ?hg (N:=3) ?hd (cs:=#[.int .i64 0,.slice none 0 0]) (t:=43) ?hr ?_;(case hd=>rfl);(case hg=>rfl);(case hr=>first|(go_simp;done)|(go_simp;rfl));intro gb373 hg w91 hbox hb;have n0_:=Aside0.mk (IsS142.below (by repeat (first|(with_reducible first|exact HI0.out|apply IsS142.alloc|apply IsS142.drewN|apply IsS142.drew|apply IsS142.set_1|apply IsS142.set_2)|exact HI0.out)) hb);have n1_:=Aside0.mk (KeepBut.trans (by repeat (first|(with_reducible first|exact HK.out|apply KeepBut.set_|apply keep_drewN|apply keep_drew|apply keep_alloc)|exact HK.out)) (KeepBut.of_below hb g none) (.inl rfl));have n2_:=Aside0.mk (below_step (by repeat (first|(with_reducible first|exact HB.out|apply below_alloc|apply pw_below_drewN|apply below_drew1|refine below_set ?_ (IsS142.ge HI0.out))|exact HB.out)) hb);have n3_:=Aside0.mk (hbox);have n4_:=Aside0.mk ((by rw [hg];exact (keep_size (w:=w) (g:=g) (row:=none) (by repeat (first|(with_reducible first|exact HK.out|apply KeepBut.set_|apply keep_drewN|apply keep_drew|apply keep_alloc)|exact HK.out))):w.heap.size≤gb373));have n5_:=Aside0.mk ((Nat.le_trans HW0.out (by rw [hg];exact (keep_size (w:=w) (g:=g) (row:=none) (by repeat (first|(with_reducible first|exact HK.out|apply KeepBut.set_|apply keep_drewN|apply keep_drew|apply keep_alloc)|exact HK.out))):w.heap.size≤gb373):w0.heap.size≤gb373));have n6_:=Aside0.mk ((by rw [hg];exact Nat.ne_of_lt (IsS142.lt (show IsS142 w0 _ g s0_0 s0_1 s0_2 from by repeat (first|(with_reducible first|exact HI0.out|apply IsS142.alloc|apply IsS142.drewN|apply IsS142.drew|apply IsS142.set_1|apply IsS142.set_2)|exact HI0.out))):g ≠ gb373));have n7_:=Aside0.mk ((by rw [hg];exact Nat.ne_of_gt (IsS142.lt (show IsS142 w0 _ g s0_0 s0_1 s0_2 from by repeat (first|(with_reducible first|exact HI0.out|apply IsS142.alloc|apply IsS142.drewN|apply IsS142.drew|apply IsS142.set_1|apply IsS142.set_2)|exact HI0.out))):gb373 ≠ g));clear HI0;clear HK;clear HB;have HI0:=n0_;have HK:=n1_;have HB:=n2_;have BK373:=n3_;have GW373:=n4_;have GE373:=n5_;have NB0_373:=n6_;have NB373_0:=n7_;clear n0_ n1_ n2_ n3_ n4_ n5_ n6_ n7_;clear hb hbox hg)|((with_reducible refine gate_callee (f:=123) rfl ?_);refine goesL_ (some 9) rfl rfl Try.func123 (by kernel_rfl) rfl #[.pointer (some ⟨g,0,none⟩)] rfl (by (try simp only [List.map_toArray,List.map_cons,List.map_nil]);first|done|rfl|(simp only [List.length_drop,List.length_take];rfl)) ?_;(with_reducible refine (spec_l5Draw.calls k g s0_0 s0_1 s0_2 t374 t377 t378 t381 t382 w0 _ ?side1 ?side2 A2.out).mono ?_);(case side1=>repeat (first|(with_reducible first|exact HI0.out|apply IsS142.alloc|apply IsS142.drewN|apply IsS142.drew|apply IsS142.set_1|apply IsS142.set_2|refine IsS142.far ?_ NB0_373.out _)|exact HI0.out));(case side2=>repeat (first|(with_reducible first|exact HB.out|apply below_alloc|apply pw_below_drewN|apply below_drew1|refine below_set ?_ (IsS142.ge HI0.out)|refine below_set ?_ GE373.out)|exact HB.out));rintro e w92 ⟨v375,v379,rfl,ho0,ho1,hi,hb,hk⟩;refine ⟨_,rfl,?_⟩;have n0_:=Aside0.mk (KeepBut.blk hk (g':=gb373) (o:=.cells #[.int .i64 0,.slice none 0 0] 43 (0,0)) (by (with_reducible repeat (first|refine blk_drewN ?_ _|refine blk_drew ?_|refine blk_alloc ?_ _));exact BK373.out) NB373_0.out (by simp));have n1_:=Aside0.mk (Kd.R_lower ho0 (keep_size (w:=w) (g:=g) (row:=none) (by repeat (first|(with_reducible first|exact HK.out|apply KeepBut.set_|apply keep_drewN|apply keep_drew|apply keep_alloc|refine keep_far ?_ GW373.out _)|exact HK.out))));have n2_:=Aside0.mk (Kd.S_lower ho1 (keep_size (w:=w) (g:=g) (row:=none) (by repeat (first|(with_reducible first|exact HK.out|apply KeepBut.set_|apply keep_drewN|apply keep_drew|apply keep_alloc|refine keep_far ?_ GW373.out _)|exact HK.out))));have n3_:=Aside0.mk (KeepBut.trans (by repeat (first|(with_reducible first|exact HK.out|apply KeepBut.set_|apply keep_drewN|apply keep_drew|apply keep_alloc|refine keep_far ?_ GW373.out _)|exact HK.out)) hk (.inl rfl));have n4_:=Aside0.mk (hb);have n5_:=Aside0.mk (hi);clear BK373;clear HK;clear HB;clear HI0;have BK373:=n0_;have HO376:=n1_;have HO380:=n2_;have HK:=n3_;have HB:=n4_;have HI0:=n5_;clear n0_ n1_ n2_ n3_ n4_ n5_;(try clear hb);(try clear hb2);(try clear hk);(try clear hi);(try clear ho0);(try clear ho1))|((with_reducible refine gate_dst (N:=5) rfl ?_);refine box_event ?hg (N:=5) ?hd (cs:=#[.int .i64 0,.slice none 0 0]) (t:=43) ?hr ?_;(case hd=>rfl);(case hg=>rfl);(case hr=>first|(go_simp;done)|(go_simp;rfl));intro gb383 hg w93 hbox hb;have n0_:=Aside0.mk (Kd.R_below (by (with_reducible repeat (first|apply Kd.R_alloc|apply Kd.R_drewN|apply Kd.R_drew));exact HO376.out) hb);have n1_:=Aside0.mk (Kd.S_below (by (with_reducible repeat (first|apply Kd.S_alloc|apply Kd.S_drewN|apply Kd.S_drew));exact HO380.out) hb);have n2_:=Aside0.mk (IsS142.below (by repeat (first|(with_reducible first|exact HI0.out|apply IsS142.alloc|apply IsS142.drewN|apply IsS142.drew|apply IsS142.set_1|apply IsS142.set_2|refine IsS142.far ?_ NB0_373.out _)|exact HI0.out)) hb);have n3_:=Aside0.mk (blk_below (g:=gb373) (o:=.cells #[.int .i64 0,.slice none 0 0] 43 (0,0)) (by (with_reducible repeat (first|refine blk_drewN ?_ _|refine blk_drew ?_|refine blk_alloc ?_ _));exact BK373.out) hb);have n4_:=Aside0.mk (KeepBut.trans (by repeat (first|(with_reducible first|exact HK.out|apply KeepBut.set_|apply keep_drewN|apply keep_drew|apply keep_alloc|refine keep_far ?_ GW373.out _)|exact HK.out)) (KeepBut.of_below hb g none) (.inl rfl));have n5_:=Aside0.mk (below_step (by repeat (first|(with_reducible first|exact HB.out|apply below_alloc|apply pw_below_drewN|apply below_drew1|refine below_set ?_ (IsS142.ge HI0.out)|refine below_set ?_ GE373.out)|exact HB.out)) hb);have n6_:=Aside0.mk (hbox);have n7_:=Aside0.mk ((by rw [hg];exact (keep_size (w:=w) (g:=g) (row:=none) (by repeat (first|(with_reducible first|exact HK.out|apply KeepBut.set_|apply keep_drewN|apply keep_drew|apply keep_alloc|refine keep_far ?_ GW373.out _)|exact HK.out))):w.heap.size≤gb383));have n8_:=Aside0.mk ((Nat.le_trans HW0.out (by rw [hg];exact (keep_size (w:=w) (g:=g) (row:=none) (by repeat (first|(with_reducible first|exact HK.out|apply KeepBut.set_|apply keep_drewN|apply keep_drew|apply keep_alloc|refine keep_far ?_ GW373.out _)|exact HK.out))):w.heap.size≤gb383):w0.heap.size≤gb383));have n9_:=Aside0.mk ((by rw [hg];exact Nat.ne_of_lt (blk_lt (g:=gb373) (o:=.cells #[.int .i64 0,.slice none 0 0] 43 (0,0)) (by (with_reducible repeat (first|refine blk_drewN ?_ _|refine blk_drew ?_|refine blk_alloc ?_ _));exact BK373.out)):gb373 ≠ gb383));have n10_:=Aside0.mk ((by rw [hg];exact Nat.ne_of_gt (blk_lt (g:=gb373) (o:=.cells #[.int .i64 0,.slice none 0 0] 43 (0,0)) (by (with_reducible repeat (first|refine blk_drewN ?_ _|refine blk_drew ?_|refine blk_alloc ?_ _));exact BK373.out)):gb383 ≠ gb373));have n11_:=Aside0.mk ((by rw [hg];exact Nat.ne_of_lt (IsS142.lt (show IsS142 w0 _ g s0_0 t381 t382 from by repeat (first|(with_reducible first|exact HI0.out|apply IsS142.alloc|apply IsS142.drewN|apply IsS142.drew|apply IsS142.set_1|apply IsS142.set_2|refine IsS142.far ?_ NB0_373.out _)|exact HI0.out))):g ≠ gb383));have n12_:=Aside0.mk ((by rw [hg];exact Nat.ne_of_gt (IsS142.lt (show IsS142 w0 _ g s0_0 t381 t382 from by repeat (first|(with_reducible first|exact HI0.out|apply IsS142.alloc|apply IsS142.drewN|apply IsS142.drew|apply IsS142.set_1|apply IsS142.set_2|refine IsS142.far ?_ NB0_373.out _)|exact HI0.out))):gb383 ≠ g));clear HO376;clear HO380;clear HI0;clear BK373;clear HK;clear HB;have HO376:=n0_;have HO380:=n1_;have HI0:=n2_;have BK373:=n3_;have HK:=n4_;have HB:=n5_;have BK383:=n6_;have GW383:=n7_;have GE383:=n8_;have NB373_383:=n9_;have NB383_373:=n10_;have NB0_383:=n11_;have NB383_0:=n12_;clear n0_ n1_ n2_ n3_ n4_ n5_ n6_ n7_ n8_ n9_ n10_ n11_ n12_;clear hb hbox hg;have hnb94:=NB383_373.out;have hnc94:=NB373_383.out;have hnb95:=NB383_0.out;have hnc95:=NB0_383.out;have hcz96_0:w93.cell? ⟨gb383,0,none⟩=some (.int .i64 0):=(blk_cell BK383.out 0).trans rfl;have hcz96_1:w93.cell? ⟨gb383,1,none⟩=some (.slice none 0 0):=(blk_cell BK383.out 1).trans rfl;have hfz96_0:=blk_frozen BK383.out 0;have hfz96_1:=blk_frozen BK383.out 1;obtain ⟨Ao97,co97,eo97⟩:=Kd.S_slice HO380.out;subst eo97)|((with_reducible refine gate_callee (f:=105) rfl ?_);refine goesL_ (some 16) rfl rfl Try.func105 (by kernel_rfl) rfl #[.pointer (some ⟨g,0,none⟩),.int .i64 (t378.length:Int)] rfl (by (try simp only [List.map_toArray,List.map_cons,List.map_nil]);first|done|rfl|(simp only [List.length_drop,List.length_take];rfl)) ?_;(with_reducible refine (spec_l1Below.calls g s0_0 t381 t382 (t378.length:Int) t384 t385 t386 w0 _ ?side1 ?side2 A3.out).mono ?_);(case side1=>repeat (first|(with_reducible first|exact HI0.out|apply IsS142.alloc|apply IsS142.drewN|apply IsS142.drew|apply IsS142.set_1|apply IsS142.set_2|refine IsS142.far ?_ NB0_373.out _|refine IsS142.far ?_ NB0_383.out _)|exact HI0.out));(case side2=>repeat (first|(with_reducible first|exact HB.out|apply below_alloc|apply pw_below_drewN|apply below_drew1|refine below_set ?_ (IsS142.ge HI0.out)|refine below_set ?_ GE373.out|refine below_set ?_ GE383.out)|exact HB.out));rintro e w98 ⟨rfl,hi,hb,hk⟩;refine ⟨_,rfl,?_⟩;have n0_:=Aside0.mk (KeepBut.blk hk (g':=gb373) (o:=.cells #[.int .i64 0,.slice none 0 0] 43 (0,0)) (by (with_reducible repeat (first|refine blk_drewN ?_ _|refine blk_drew ?_|refine blk_alloc ?_ _));refine blk_far ?_ NB373_383.out _;(with_reducible repeat (first|refine blk_drewN ?_ _|refine blk_drew ?_|refine blk_alloc ?_ _));refine blk_far ?_ NB373_383.out _;(with_reducible repeat (first|refine blk_drewN ?_ _|refine blk_drew ?_|refine blk_alloc ?_ _));exact BK373.out) NB373_0.out (by simp));have n1_:=Aside0.mk (Kd.R_mono (Kd.R_keep (IsS142.apart (show IsS142 w0 _ g s0_0 t381 t382 from by repeat (first|(with_reducible first|exact HI0.out|apply IsS142.alloc|apply IsS142.drewN|apply IsS142.drew|apply IsS142.set_1|apply IsS142.set_2|refine IsS142.far ?_ NB0_373.out _|refine IsS142.far ?_ NB0_383.out _)|exact HI0.out)) (by (with_reducible repeat (first|apply Kd.R_alloc|apply Kd.R_drewN|apply Kd.R_drew));exact (Kd.R_mono (Kd.R_far (p:=⟨gb383,1,none⟩) (Kd.R_far (p:=⟨gb383,0,none⟩) (Kd.R_types HO376.out BK383.out (by decide)) (fun _ hk=>hk.2) (.int .i64 t377)) (fun _ hk=>hk.2) (.slice Ao97 t378.length co97)) (fun _ h_=>h_.1))) (by decide)) hk (fun _ h=>h.2)) (fun _ h=>h.1));have n2_:=Aside0.mk (Kd.S_mono (Kd.S_keep (IsS142.apartS (show IsS142 w0 _ g s0_0 t381 t382 from by repeat (first|(with_reducible first|exact HI0.out|apply IsS142.alloc|apply IsS142.drewN|apply IsS142.drew|apply IsS142.set_1|apply IsS142.set_2|refine IsS142.far ?_ NB0_373.out _|refine IsS142.far ?_ NB0_383.out _)|exact HI0.out)) (by (with_reducible repeat (first|apply Kd.S_alloc|apply Kd.S_drewN|apply Kd.S_drew));exact (Kd.S_mono (Kd.S_far (p:=⟨gb383,1,none⟩) (Kd.S_far (p:=⟨gb383,0,none⟩) (Kd.S_types HO380.out BK383.out (by decide)) (fun _ hk=>hk.2) (.int .i64 t377)) (fun _ hk=>hk.2) (.slice Ao97 t378.length co97)) (fun _ h_=>h_.1))) (by decide)) hk (fun _ h=>h.2)) (fun _ h=>h.1));have n3_:=Aside0.mk (KeepBut.blk hk (g':=gb383) (o:=.cells #[.int .i64 t377,.slice Ao97 t378.length co97] 43 (0,0)) (by (with_reducible repeat (first|refine blk_drewN ?_ _|refine blk_drew ?_|refine blk_alloc ?_ _));refine blk_put (cs:=#[.int .i64 t377,.slice none 0 0]) ?_ 1 _ rfl;(with_reducible repeat (first|refine blk_drewN ?_ _|refine blk_drew ?_|refine blk_alloc ?_ _));refine blk_put (cs:=#[.int .i64 0,.slice none 0 0]) ?_ 0 _ rfl;(with_reducible repeat (first|refine blk_drewN ?_ _|refine blk_drew ?_|refine blk_alloc ?_ _));exact BK383.out) NB383_0.out (by simp));have n4_:=Aside0.mk (KeepBut.trans (by repeat (first|(with_reducible first|exact HK.out|apply KeepBut.set_|apply keep_drewN|apply keep_drew|apply keep_alloc|refine keep_far ?_ GW373.out _|refine keep_far ?_ GW383.out _)|exact HK.out)) hk (.inl rfl));have n5_:=Aside0.mk (hb);have n6_:=Aside0.mk (hi);clear BK373;clear HO376;clear HO380;clear BK383;clear HK;clear HB;clear HI0;have BK373:=n0_;have HO376:=n1_;have HO380:=n2_;have BK383:=n3_;have HK:=n4_;have HB:=n5_;have HI0:=n6_;clear n0_ n1_ n2_ n3_ n4_ n5_ n6_;(try clear hb);(try clear hb2);(try clear hk);(try clear hi))|((with_reducible refine gate_callee (f:=105) rfl ?_);refine goesL_ (some 18) rfl rfl Try.func105 (by kernel_rfl) rfl #[.pointer (some ⟨g,0,none⟩),.int .i64 10] rfl (by (try simp only [List.map_toArray,List.map_cons,List.map_nil]);first|done|rfl|(simp only [List.length_drop,List.length_take];rfl)) ?_;(with_reducible refine (spec_l1Below.calls g s0_0 t385 t386 10 t387 t388 t389 w0 _ ?side1 ?side2 A4.out).mono ?_);(case side1=>repeat (first|(with_reducible first|exact HI0.out|apply IsS142.alloc|apply IsS142.drewN|apply IsS142.drew|apply IsS142.set_1|apply IsS142.set_2|refine IsS142.far ?_ NB0_373.out _|refine IsS142.far ?_ NB0_383.out _)|exact HI0.out));(case side2=>repeat (first|(with_reducible first|exact HB.out|apply below_alloc|apply pw_below_drewN|apply below_drew1|refine below_set ?_ (IsS142.ge HI0.out)|refine below_set ?_ GE373.out|refine below_set ?_ GE383.out)|exact HB.out));rintro e w99 ⟨rfl,hi,hb,hk⟩;refine ⟨_,rfl,?_⟩;have n0_:=Aside0.mk (KeepBut.blk hk (g':=gb373) (o:=.cells #[.int .i64 0,.slice none 0 0] 43 (0,0)) (by (with_reducible repeat (first|refine blk_drewN ?_ _|refine blk_drew ?_|refine blk_alloc ?_ _));exact BK373.out) NB373_0.out (by simp));have n1_:=Aside0.mk (Kd.R_mono (Kd.R_keep (IsS142.apart (show IsS142 w0 _ g s0_0 t385 t386 from by repeat (first|(with_reducible first|exact HI0.out|apply IsS142.alloc|apply IsS142.drewN|apply IsS142.drew|apply IsS142.set_1|apply IsS142.set_2|refine IsS142.far ?_ NB0_373.out _|refine IsS142.far ?_ NB0_383.out _)|exact HI0.out)) (by (with_reducible repeat (first|apply Kd.R_alloc|apply Kd.R_drewN|apply Kd.R_drew));exact HO376.out) (by decide)) hk (fun _ h=>h.2)) (fun _ h=>h.1));have n2_:=Aside0.mk (Kd.S_mono (Kd.S_keep (IsS142.apartS (show IsS142 w0 _ g s0_0 t385 t386 from by repeat (first|(with_reducible first|exact HI0.out|apply IsS142.alloc|apply IsS142.drewN|apply IsS142.drew|apply IsS142.set_1|apply IsS142.set_2|refine IsS142.far ?_ NB0_373.out _|refine IsS142.far ?_ NB0_383.out _)|exact HI0.out)) (by (with_reducible repeat (first|apply Kd.S_alloc|apply Kd.S_drewN|apply Kd.S_drew));exact HO380.out) (by decide)) hk (fun _ h=>h.2)) (fun _ h=>h.1));have n3_:=Aside0.mk (KeepBut.blk hk (g':=gb383) (o:=.cells #[.int .i64 t377,.slice Ao97 t378.length co97] 43 (0,0)) (by (with_reducible repeat (first|refine blk_drewN ?_ _|refine blk_drew ?_|refine blk_alloc ?_ _));exact BK383.out) NB383_0.out (by simp));have n4_:=Aside0.mk (KeepBut.trans (by repeat (first|(with_reducible first|exact HK.out|apply KeepBut.set_|apply keep_drewN|apply keep_drew|apply keep_alloc|refine keep_far ?_ GW373.out _|refine keep_far ?_ GW383.out _)|exact HK.out)) hk (.inl rfl));have n5_:=Aside0.mk (hb);have n6_:=Aside0.mk (hi);clear BK373;clear HO376;clear HO380;clear BK383;clear HK;clear HB;clear HI0;have BK373:=n0_;have HO376:=n1_;have HO380:=n2_;have BK383:=n3_;have HK:=n4_;have HB:=n5_;have HI0:=n6_;clear n0_ n1_ n2_ n3_ n4_ n5_ n6_;(try clear hb);(try clear hb2);(try clear hk);(try clear hi);have hcz100_0:w99.cell? ⟨gb383,0,none⟩=some (.int .i64 t377):=(blk_cell BK383.out 0).trans rfl;have hcz100_1:w99.cell? ⟨gb383,1,none⟩=some (.slice Ao97 t378.length co97):=(blk_cell BK383.out 1).trans rfl;have hfz100_0:=blk_frozen BK383.out 0;have hfz100_1:=blk_frozen BK383.out 1;have q101:(0:Int)≤((t378.length:Int):Int):=of_decide_eq_true (by first|(with_reducible assumption)|assumption);obtain ⟨i0101,hi0101,_,hsz101,_⟩:=info_parts info29;have hcut101:=cut_to (P:=Try.prog) 41 29 .i64 Try.underlying41 hi0101 Ao97 t378.length co97 0 (by omega) q101 (Kd.S_reads' HO380.out).2.1;have hr101:=Kd.S_take (m:=(0:Int).toNat) HO380.out (by omega);have hy101:y416.length=(0:Int).toNat:=(by rw [Ny416.out,List.length_take];omega);rw [← Ny416.out] at hr101;rw [← hy101] at hr101 hcut101;clear hy101 hi0101 hsz101 HO380;have HO418:=Aside0.mk hr101;clear hr101;replace q101:=eq_true q101))
       have n0_:Aside0 (Kd.R k76 76 (w99.setCell ⟨gb383,1,none⟩ (.slice Ao97 y416.length co97)) w.heap.size (fun _=>True) v375 t374):=⟨by (with_reducible repeat (first|apply Kd.R_alloc|apply Kd.R_drewN|apply Kd.R_drew));exact Kd.R_mono (Kd.R_far (p:=⟨gb383,1,none⟩) (Kd.R_types HO376.out BK383.out (by decide)) (fun _ hk=>hk.2) (.slice Ao97 y416.length co97)) (fun _ hk=>trivial)⟩
       have n1_:Aside0 (Kd.S k29 29 (w99.setCell ⟨gb383,1,none⟩ (.slice Ao97 y416.length co97)) w.heap.size (fun _=>True) (.slice Ao97 y416.length co97) y416):=⟨by (with_reducible repeat (first|apply Kd.S_alloc|apply Kd.S_drewN|apply Kd.S_drew));exact Kd.S_mono (Kd.S_far (p:=⟨gb383,1,none⟩) (Kd.S_types HO418.out BK383.out (by decide)) (fun _ hk=>hk.2) (.slice Ao97 y416.length co97)) (fun _ hk=>trivial)⟩
       have n2_:Aside0 ((w99.setCell ⟨gb383,1,none⟩ (.slice Ao97 y416.length co97)).heap[gb373]?=some (.cells #[.int .i64 0,.slice none 0 0] 43 (0,0))):=⟨by (with_reducible repeat (first|refine blk_drewN ?_ _|refine blk_drew ?_|refine blk_alloc ?_ _));refine blk_far ?_ NB373_383.out _;(with_reducible repeat (first|refine blk_drewN ?_ _|refine blk_drew ?_|refine blk_alloc ?_ _));exact BK373.out⟩
       have n3_:Aside0 ((w99.setCell ⟨gb383,1,none⟩ (.slice Ao97 y416.length co97)).heap[gb383]?=some (.cells #[.int .i64 t377,.slice Ao97 y416.length co97] 43 (0,0))):=⟨by (with_reducible repeat (first|refine blk_drewN ?_ _|refine blk_drew ?_|refine blk_alloc ?_ _));refine blk_put (cs:=#[.int .i64 t377,.slice Ao97 t378.length co97]) ?_ 1 _ rfl;(with_reducible repeat (first|refine blk_drewN ?_ _|refine blk_drew ?_|refine blk_alloc ?_ _));exact BK383.out⟩
       have n4_:Aside0 (IsS142 w0 (w99.setCell ⟨gb383,1,none⟩ (.slice Ao97 y416.length co97)) g s0_0 t388 t389):=⟨by repeat (first|(with_reducible first|exact HI0.out|apply IsS142.alloc|apply IsS142.drewN|apply IsS142.drew|apply IsS142.set_1|apply IsS142.set_2|refine IsS142.far ?_ NB0_373.out _|refine IsS142.far ?_ NB0_383.out _)|exact HI0.out)⟩
       have n5_:Aside0 (KeepBut w (w99.setCell ⟨gb383,1,none⟩ (.slice Ao97 y416.length co97)) g none):=⟨by repeat (first|(with_reducible first|exact HK.out|apply KeepBut.set_|apply keep_drewN|apply keep_drew|apply keep_alloc|refine keep_far ?_ GW373.out _|refine keep_far ?_ GW383.out _)|exact HK.out)⟩
       have n6_:Aside0 (Below w0.heap.size w0 (w99.setCell ⟨gb383,1,none⟩ (.slice Ao97 y416.length co97))):=⟨by repeat (first|(with_reducible first|exact HB.out|apply below_alloc|apply pw_below_drewN|apply below_drew1|refine below_set ?_ (IsS142.ge HI0.out)|refine below_set ?_ GE373.out|refine below_set ?_ GE383.out)|exact HB.out)⟩
       (try clear HO376)
       (try clear HO418)
       (try clear BK373)
       (try clear BK383)
       (try clear HI0)
       (try clear HK)
       (try clear HB)
       generalize (w99.setCell ⟨gb383,1,none⟩ (.slice Ao97 y416.length co97))=w102 at n0_ n1_ n2_ n3_ n4_ n5_ n6_ ⊢
       have HO376:=n0_
       have HO418:=n1_
       have BK373:=n2_
       have BK383:=n3_
       have HI0:=n4_
       have HK:=n5_
       have HB:=n6_
       clear n0_ n1_ n2_ n3_ n4_ n5_ n6_
       have n0_:=Aside0.mk (Kd.R_drew HO376.out)
       have n1_:=Aside0.mk (Kd.S_drew HO418.out)
       have n2_:=Aside0.mk (blk_drew BK373.out)
       have n3_:=Aside0.mk (blk_drew BK383.out)
       have n4_:=Aside0.mk (IsS142.drew HI0.out)
       have n5_:=Aside0.mk (keep_drew HK.out)
       have n6_:=Aside0.mk (below_drew1 HB.out)
       clear HO376
       clear HO418
       clear BK373
       clear BK383
       clear HI0
       clear HK
       clear HB
       have HO376:=n0_
       have HO418:=n1_
       have BK373:=n2_
       have BK383:=n3_
       have HI0:=n4_
       have HK:=n5_
       have HB:=n6_
       clear n0_ n1_ n2_ n3_ n4_ n5_ n6_
       refine start_ (n:=4) (S:=fun w'=>w'.cell? ⟨gb383,0,none⟩=some (.int .i64 t377)∧w'.cell? ⟨gb383,1,none⟩=some (.slice Ao97 y416.length co97)) (ds:=[]) #[false,false,false,false] (by kernel_rfl) rfl rfl ⟨(blk_cell BK383.out 0).trans rfl,(blk_cell BK383.out 1).trans rfl⟩ (fun hHeld=>?_)
       generalize w102.drew=w103 at HO376 HO418 BK373 BK383 HI0 HK HB hHeld ⊢
       refine pure_ (i:=0) (N:=some 63) (v:=?_) (a':=?_) #[true,false,false,false] rfl rfl (by kernel_rfl) (fun _ _ _ h=>h) (Or.inl ⟨by rfl,?_⟩) ?_ ?_
       rotate_left
       ·intro w'
        go_simp
        with_reducible rfl
       rotate_left
       ·simp only [Act.put,List.setIfInBounds_toArray,List.set_cons_zero,List.set_cons_succ,i64_w,i32_w]
        rfl
       refine pure_ (i:=2) (N:=some 2) (v:=?_) (a':=?_) #[true,false,true,false] rfl rfl (by kernel_rfl) (fun _ _ _ h=>h) (Or.inl ⟨by rfl,?_⟩) ?_ ?_
       rotate_left
       ·intro w'
        go_simp
        with_reducible rfl
       rotate_left
       ·simp only [Act.put,List.setIfInBounds_toArray,List.set_cons_zero,List.set_cons_succ,i64_w,i32_w]
        rfl
       refine take_ (i:=1) (N:=some 64) (v:=?_) (a':=?_) #[true,true,true,false] rfl rfl (by kernel_rfl) (fun _ _ _ h=>h) (Or.inl ⟨by rfl,?_⟩) hHeld ?_ ?_
       rotate_left
       ·rintro w' ⟨s0,s1⟩
        go_simp
        with_reducible rfl
       rotate_left
       ·simp only [Act.put,List.setIfInBounds_toArray,List.set_cons_zero,List.set_cons_succ,i64_w,i32_w]
        rfl
       refine one_ (i:=3) (N:=none) #[true,true,true,true] rfl rfl (by kernel_rfl) (by decide) (fun K hK=>?_)
       have hs104:w103.cell? ⟨gb373,0,none⟩=some (.int .i64 0):=(blk_cell BK373.out 0).trans rfl
       have hfs104:=blk_frozen BK373.out 0
       have hns104_1:=NB383_373.out
       have hms104_1:=NB373_383.out
       have hs105:w103.cell? ⟨gb373,1,none⟩=some (.slice none 0 0):=(blk_cell BK373.out 1).trans rfl
       have hfs105:=blk_frozen BK373.out 1
       have hns105_1:=NB383_373.out
       have hms105_1:=NB373_383.out
       refine skip_ (w1:=?_) (by rfl) rfl ?_ ?_
       rotate_left
       ·go_simp
        rfl
       refine hK.out _ _ ⟨((cell_far (p:=⟨gb373,_,none⟩) NB383_373.out _).trans (((cell_far (p:=⟨gb373,_,none⟩) NB383_373.out _).trans (hHeld.1)))),((cell_far (p:=⟨gb373,_,none⟩) NB383_373.out _).trans (((cell_far (p:=⟨gb373,_,none⟩) NB383_373.out _).trans (hHeld.2))))⟩ (fun hHeld=>?_)
       clear hK K
       refine done_ (by kernel_rfl) ?_
       try go_wp2
       refine bodyPost_ret (results_tc rfl _ _ gb373 43 #[.int .i64 t377,.slice Ao97 y416.length co97] (0,0) _ rfl (by (with_reducible repeat (first|refine blk_drewN ?_ _|refine blk_drew ?_|refine blk_alloc ?_ _));refine blk_put (cs:=#[.int .i64 t377,.slice none 0 0]) ?_ 1 _ rfl;(with_reducible repeat (first|refine blk_drewN ?_ _|refine blk_drew ?_|refine blk_alloc ?_ _));refine blk_put (cs:=#[.int .i64 0,.slice none 0 0]) ?_ 0 _ rfl;(with_reducible repeat (first|refine blk_drewN ?_ _|refine blk_drew ?_|refine blk_alloc ?_ _));exact BK373.out) Try.underlying43 rfl (by kernel_rfl)) rfl ?_
       exact ⟨_,_,by first|rfl|(simp [errW_none,errW_some] <;> rfl)|(simp [*,errW_none,errW_some] <;> rfl),by (with_reducible repeat (first|apply Kd.R_alloc|apply Kd.R_drewN|apply Kd.R_drew));exact Kd.R_mono (Kd.R_far (p:=⟨gb373,1,none⟩) (Kd.R_far (p:=⟨gb373,0,none⟩) (Kd.R_types HO376.out BK373.out (by decide)) (fun _ hk=>hk.2) (.int .i64 t377)) (fun _ hk=>hk.2) (.slice Ao97 y416.length co97)) (fun _ hk=>trivial),by (with_reducible repeat (first|apply Kd.S_alloc|apply Kd.S_drewN|apply Kd.S_drew));exact Kd.S_mono (Kd.S_far (p:=⟨gb373,1,none⟩) (Kd.S_far (p:=⟨gb373,0,none⟩) (Kd.S_types HO418.out BK373.out (by decide)) (fun _ hk=>hk.2) (.int .i64 t377)) (fun _ hk=>hk.2) (.slice Ao97 y416.length co97)) (fun _ hk=>trivial),by repeat (first|(with_reducible first|exact HI0.out|apply IsS142.alloc|apply IsS142.drewN|apply IsS142.drew|apply IsS142.set_1|apply IsS142.set_2|refine IsS142.far ?_ NB0_373.out _|refine IsS142.far ?_ NB0_383.out _)|exact HI0.out),by repeat (first|(with_reducible first|exact HB.out|apply below_alloc|apply pw_below_drewN|apply below_drew1|refine below_set ?_ (IsS142.ge HI0.out)|refine below_set ?_ GE373.out|refine below_set ?_ GE383.out)|exact HB.out),by repeat (first|(with_reducible first|exact HK.out|apply KeepBut.set_|apply keep_drewN|apply keep_drew|apply keep_alloc|refine keep_far ?_ GW373.out _|refine keep_far ?_ GW383.out _)|exact HK.out)⟩
      ·rw [if_neg c90] at H
       exact absurd H (by simp)
     ·rw [if_neg c89] at H
      have c89b0:(t387 == 4)=false:=beq_eq_false_iff_ne.mpr c89
      have c89b1:(t387 != 4)=true:=bne_iff_ne.mpr c89
      simp only [Option.some.injEq,Prod.mk.injEq] at H
      obtain ⟨rfl,rfl,rfl,rfl,rfl⟩:=H
      go_enter Try.func104,Try.ntmps104
      try go_wp2_with (first|((with_reducible refine gate_dst (N:=3) rfl ?_);refine box_event ?hg (N:=3) ?hd (cs:=#[.int .i64 0,.slice none 0 0]) (t:=43) ?hr ?_;(case hd=>rfl);(case hg=>rfl);(case hr=>first|(go_simp;done)|(go_simp;rfl));intro gb373 hg w106 hbox hb;have n0_:=Aside0.mk (IsS142.below (by repeat (first|(with_reducible first|exact HI0.out|apply IsS142.alloc|apply IsS142.drewN|apply IsS142.drew|apply IsS142.set_1|apply IsS142.set_2)|exact HI0.out)) hb);have n1_:=Aside0.mk (KeepBut.trans (by repeat (first|(with_reducible first|exact HK.out|apply KeepBut.set_|apply keep_drewN|apply keep_drew|apply keep_alloc)|exact HK.out)) (KeepBut.of_below hb g none) (.inl rfl));have n2_:=Aside0.mk (below_step (by repeat (first|(with_reducible first|exact HB.out|apply below_alloc|apply pw_below_drewN|apply below_drew1|refine below_set ?_ (IsS142.ge HI0.out))|exact HB.out)) hb);have n3_:=Aside0.mk (hbox);have n4_:=Aside0.mk ((by rw [hg];exact (keep_size (w:=w) (g:=g) (row:=none) (by repeat (first|(with_reducible first|exact HK.out|apply KeepBut.set_|apply keep_drewN|apply keep_drew|apply keep_alloc)|exact HK.out))):w.heap.size≤gb373));have n5_:=Aside0.mk ((Nat.le_trans HW0.out (by rw [hg];exact (keep_size (w:=w) (g:=g) (row:=none) (by repeat (first|(with_reducible first|exact HK.out|apply KeepBut.set_|apply keep_drewN|apply keep_drew|apply keep_alloc)|exact HK.out))):w.heap.size≤gb373):w0.heap.size≤gb373));have n6_:=Aside0.mk ((by rw [hg];exact Nat.ne_of_lt (IsS142.lt (show IsS142 w0 _ g s0_0 s0_1 s0_2 from by repeat (first|(with_reducible first|exact HI0.out|apply IsS142.alloc|apply IsS142.drewN|apply IsS142.drew|apply IsS142.set_1|apply IsS142.set_2)|exact HI0.out))):g ≠ gb373));have n7_:=Aside0.mk ((by rw [hg];exact Nat.ne_of_gt (IsS142.lt (show IsS142 w0 _ g s0_0 s0_1 s0_2 from by repeat (first|(with_reducible first|exact HI0.out|apply IsS142.alloc|apply IsS142.drewN|apply IsS142.drew|apply IsS142.set_1|apply IsS142.set_2)|exact HI0.out))):gb373 ≠ g));clear HI0;clear HK;clear HB;have HI0:=n0_;have HK:=n1_;have HB:=n2_;have BK373:=n3_;have GW373:=n4_;have GE373:=n5_;have NB0_373:=n6_;have NB373_0:=n7_;clear n0_ n1_ n2_ n3_ n4_ n5_ n6_ n7_;clear hb hbox hg)|((with_reducible refine gate_callee (f:=123) rfl ?_);refine goesL_ (some 9) rfl rfl Try.func123 (by kernel_rfl) rfl #[.pointer (some ⟨g,0,none⟩)] rfl (by (try simp only [List.map_toArray,List.map_cons,List.map_nil]);first|done|rfl|(simp only [List.length_drop,List.length_take];rfl)) ?_;(with_reducible refine (spec_l5Draw.calls k g s0_0 s0_1 s0_2 t374 t377 t378 t381 t382 w0 _ ?side1 ?side2 A2.out).mono ?_);(case side1=>repeat (first|(with_reducible first|exact HI0.out|apply IsS142.alloc|apply IsS142.drewN|apply IsS142.drew|apply IsS142.set_1|apply IsS142.set_2|refine IsS142.far ?_ NB0_373.out _)|exact HI0.out));(case side2=>repeat (first|(with_reducible first|exact HB.out|apply below_alloc|apply pw_below_drewN|apply below_drew1|refine below_set ?_ (IsS142.ge HI0.out)|refine below_set ?_ GE373.out)|exact HB.out));rintro e w107 ⟨v375,v379,rfl,ho0,ho1,hi,hb,hk⟩;refine ⟨_,rfl,?_⟩;have n0_:=Aside0.mk (KeepBut.blk hk (g':=gb373) (o:=.cells #[.int .i64 0,.slice none 0 0] 43 (0,0)) (by (with_reducible repeat (first|refine blk_drewN ?_ _|refine blk_drew ?_|refine blk_alloc ?_ _));exact BK373.out) NB373_0.out (by simp));have n1_:=Aside0.mk (Kd.R_lower ho0 (keep_size (w:=w) (g:=g) (row:=none) (by repeat (first|(with_reducible first|exact HK.out|apply KeepBut.set_|apply keep_drewN|apply keep_drew|apply keep_alloc|refine keep_far ?_ GW373.out _)|exact HK.out))));have n2_:=Aside0.mk (Kd.S_lower ho1 (keep_size (w:=w) (g:=g) (row:=none) (by repeat (first|(with_reducible first|exact HK.out|apply KeepBut.set_|apply keep_drewN|apply keep_drew|apply keep_alloc|refine keep_far ?_ GW373.out _)|exact HK.out))));have n3_:=Aside0.mk (KeepBut.trans (by repeat (first|(with_reducible first|exact HK.out|apply KeepBut.set_|apply keep_drewN|apply keep_drew|apply keep_alloc|refine keep_far ?_ GW373.out _)|exact HK.out)) hk (.inl rfl));have n4_:=Aside0.mk (hb);have n5_:=Aside0.mk (hi);clear BK373;clear HK;clear HB;clear HI0;have BK373:=n0_;have HO376:=n1_;have HO380:=n2_;have HK:=n3_;have HB:=n4_;have HI0:=n5_;clear n0_ n1_ n2_ n3_ n4_ n5_;(try clear hb);(try clear hb2);(try clear hk);(try clear hi);(try clear ho0);(try clear ho1))|((with_reducible refine gate_dst (N:=5) rfl ?_);refine box_event ?hg (N:=5) ?hd (cs:=#[.int .i64 0,.slice none 0 0]) (t:=43) ?hr ?_;(case hd=>rfl);(case hg=>rfl);(case hr=>first|(go_simp;done)|(go_simp;rfl));intro gb383 hg w108 hbox hb;have n0_:=Aside0.mk (Kd.R_below (by (with_reducible repeat (first|apply Kd.R_alloc|apply Kd.R_drewN|apply Kd.R_drew));exact HO376.out) hb);have n1_:=Aside0.mk (Kd.S_below (by (with_reducible repeat (first|apply Kd.S_alloc|apply Kd.S_drewN|apply Kd.S_drew));exact HO380.out) hb);have n2_:=Aside0.mk (IsS142.below (by repeat (first|(with_reducible first|exact HI0.out|apply IsS142.alloc|apply IsS142.drewN|apply IsS142.drew|apply IsS142.set_1|apply IsS142.set_2|refine IsS142.far ?_ NB0_373.out _)|exact HI0.out)) hb);have n3_:=Aside0.mk (blk_below (g:=gb373) (o:=.cells #[.int .i64 0,.slice none 0 0] 43 (0,0)) (by (with_reducible repeat (first|refine blk_drewN ?_ _|refine blk_drew ?_|refine blk_alloc ?_ _));exact BK373.out) hb);have n4_:=Aside0.mk (KeepBut.trans (by repeat (first|(with_reducible first|exact HK.out|apply KeepBut.set_|apply keep_drewN|apply keep_drew|apply keep_alloc|refine keep_far ?_ GW373.out _)|exact HK.out)) (KeepBut.of_below hb g none) (.inl rfl));have n5_:=Aside0.mk (below_step (by repeat (first|(with_reducible first|exact HB.out|apply below_alloc|apply pw_below_drewN|apply below_drew1|refine below_set ?_ (IsS142.ge HI0.out)|refine below_set ?_ GE373.out)|exact HB.out)) hb);have n6_:=Aside0.mk (hbox);have n7_:=Aside0.mk ((by rw [hg];exact (keep_size (w:=w) (g:=g) (row:=none) (by repeat (first|(with_reducible first|exact HK.out|apply KeepBut.set_|apply keep_drewN|apply keep_drew|apply keep_alloc|refine keep_far ?_ GW373.out _)|exact HK.out))):w.heap.size≤gb383));have n8_:=Aside0.mk ((Nat.le_trans HW0.out (by rw [hg];exact (keep_size (w:=w) (g:=g) (row:=none) (by repeat (first|(with_reducible first|exact HK.out|apply KeepBut.set_|apply keep_drewN|apply keep_drew|apply keep_alloc|refine keep_far ?_ GW373.out _)|exact HK.out))):w.heap.size≤gb383):w0.heap.size≤gb383));have n9_:=Aside0.mk ((by rw [hg];exact Nat.ne_of_lt (blk_lt (g:=gb373) (o:=.cells #[.int .i64 0,.slice none 0 0] 43 (0,0)) (by (with_reducible repeat (first|refine blk_drewN ?_ _|refine blk_drew ?_|refine blk_alloc ?_ _));exact BK373.out)):gb373 ≠ gb383));have n10_:=Aside0.mk ((by rw [hg];exact Nat.ne_of_gt (blk_lt (g:=gb373) (o:=.cells #[.int .i64 0,.slice none 0 0] 43 (0,0)) (by (with_reducible repeat (first|refine blk_drewN ?_ _|refine blk_drew ?_|refine blk_alloc ?_ _));exact BK373.out)):gb383 ≠ gb373));have n11_:=Aside0.mk ((by rw [hg];exact Nat.ne_of_lt (IsS142.lt (show IsS142 w0 _ g s0_0 t381 t382 from by repeat (first|(with_reducible first|exact HI0.out|apply IsS142.alloc|apply IsS142.drewN|apply IsS142.drew|apply IsS142.set_1|apply IsS142.set_2|refine IsS142.far ?_ NB0_373.out _)|exact HI0.out))):g ≠ gb383));have n12_:=Aside0.mk ((by rw [hg];exact Nat.ne_of_gt (IsS142.lt (show IsS142 w0 _ g s0_0 t381 t382 from by repeat (first|(with_reducible first|exact HI0.out|apply IsS142.alloc|apply IsS142.drewN|apply IsS142.drew|apply IsS142.set_1|apply IsS142.set_2|refine IsS142.far ?_ NB0_373.out _)|exact HI0.out))):gb383 ≠ g));clear HO376;clear HO380;clear HI0;clear BK373;clear HK;clear HB;have HO376:=n0_;have HO380:=n1_;have HI0:=n2_;have BK373:=n3_;have HK:=n4_;have HB:=n5_;have BK383:=n6_;have GW383:=n7_;have GE383:=n8_;have NB373_383:=n9_;have NB383_373:=n10_;have NB0_383:=n11_;have NB383_0:=n12_;clear n0_ n1_ n2_ n3_ n4_ n5_ n6_ n7_ n8_ n9_ n10_ n11_ n12_;clear hb hbox hg;have hnb109:=NB383_373.out;have hnc109:=NB373_383.out;have hnb110:=NB383_0.out;have hnc110:=NB0_383.out;have hcz111_0:w108.cell? ⟨gb383,0,none⟩=some (.int .i64 0):=(blk_cell BK383.out 0).trans rfl;have hcz111_1:w108.cell? ⟨gb383,1,none⟩=some (.slice none 0 0):=(blk_cell BK383.out 1).trans rfl;have hfz111_0:=blk_frozen BK383.out 0;have hfz111_1:=blk_frozen BK383.out 1;obtain ⟨Ao112,co112,eo112⟩:=Kd.S_slice HO380.out;subst eo112)|((with_reducible refine gate_callee (f:=105) rfl ?_);refine goesL_ (some 16) rfl rfl Try.func105 (by kernel_rfl) rfl #[.pointer (some ⟨g,0,none⟩),.int .i64 (t378.length:Int)] rfl (by (try simp only [List.map_toArray,List.map_cons,List.map_nil]);first|done|rfl|(simp only [List.length_drop,List.length_take];rfl)) ?_;(with_reducible refine (spec_l1Below.calls g s0_0 t381 t382 (t378.length:Int) t384 t385 t386 w0 _ ?side1 ?side2 A3.out).mono ?_);(case side1=>repeat (first|(with_reducible first|exact HI0.out|apply IsS142.alloc|apply IsS142.drewN|apply IsS142.drew|apply IsS142.set_1|apply IsS142.set_2|refine IsS142.far ?_ NB0_373.out _|refine IsS142.far ?_ NB0_383.out _)|exact HI0.out));(case side2=>repeat (first|(with_reducible first|exact HB.out|apply below_alloc|apply pw_below_drewN|apply below_drew1|refine below_set ?_ (IsS142.ge HI0.out)|refine below_set ?_ GE373.out|refine below_set ?_ GE383.out)|exact HB.out));rintro e w113 ⟨rfl,hi,hb,hk⟩;refine ⟨_,rfl,?_⟩;have n0_:=Aside0.mk (KeepBut.blk hk (g':=gb373) (o:=.cells #[.int .i64 0,.slice none 0 0] 43 (0,0)) (by (with_reducible repeat (first|refine blk_drewN ?_ _|refine blk_drew ?_|refine blk_alloc ?_ _));refine blk_far ?_ NB373_383.out _;(with_reducible repeat (first|refine blk_drewN ?_ _|refine blk_drew ?_|refine blk_alloc ?_ _));refine blk_far ?_ NB373_383.out _;(with_reducible repeat (first|refine blk_drewN ?_ _|refine blk_drew ?_|refine blk_alloc ?_ _));exact BK373.out) NB373_0.out (by simp));have n1_:=Aside0.mk (Kd.R_mono (Kd.R_keep (IsS142.apart (show IsS142 w0 _ g s0_0 t381 t382 from by repeat (first|(with_reducible first|exact HI0.out|apply IsS142.alloc|apply IsS142.drewN|apply IsS142.drew|apply IsS142.set_1|apply IsS142.set_2|refine IsS142.far ?_ NB0_373.out _|refine IsS142.far ?_ NB0_383.out _)|exact HI0.out)) (by (with_reducible repeat (first|apply Kd.R_alloc|apply Kd.R_drewN|apply Kd.R_drew));exact (Kd.R_mono (Kd.R_far (p:=⟨gb383,1,none⟩) (Kd.R_far (p:=⟨gb383,0,none⟩) (Kd.R_types HO376.out BK383.out (by decide)) (fun _ hk=>hk.2) (.int .i64 t377)) (fun _ hk=>hk.2) (.slice Ao112 t378.length co112)) (fun _ h_=>h_.1))) (by decide)) hk (fun _ h=>h.2)) (fun _ h=>h.1));have n2_:=Aside0.mk (Kd.S_mono (Kd.S_keep (IsS142.apartS (show IsS142 w0 _ g s0_0 t381 t382 from by repeat (first|(with_reducible first|exact HI0.out|apply IsS142.alloc|apply IsS142.drewN|apply IsS142.drew|apply IsS142.set_1|apply IsS142.set_2|refine IsS142.far ?_ NB0_373.out _|refine IsS142.far ?_ NB0_383.out _)|exact HI0.out)) (by (with_reducible repeat (first|apply Kd.S_alloc|apply Kd.S_drewN|apply Kd.S_drew));exact (Kd.S_mono (Kd.S_far (p:=⟨gb383,1,none⟩) (Kd.S_far (p:=⟨gb383,0,none⟩) (Kd.S_types HO380.out BK383.out (by decide)) (fun _ hk=>hk.2) (.int .i64 t377)) (fun _ hk=>hk.2) (.slice Ao112 t378.length co112)) (fun _ h_=>h_.1))) (by decide)) hk (fun _ h=>h.2)) (fun _ h=>h.1));have n3_:=Aside0.mk (KeepBut.blk hk (g':=gb383) (o:=.cells #[.int .i64 t377,.slice Ao112 t378.length co112] 43 (0,0)) (by (with_reducible repeat (first|refine blk_drewN ?_ _|refine blk_drew ?_|refine blk_alloc ?_ _));refine blk_put (cs:=#[.int .i64 t377,.slice none 0 0]) ?_ 1 _ rfl;(with_reducible repeat (first|refine blk_drewN ?_ _|refine blk_drew ?_|refine blk_alloc ?_ _));refine blk_put (cs:=#[.int .i64 0,.slice none 0 0]) ?_ 0 _ rfl;(with_reducible repeat (first|refine blk_drewN ?_ _|refine blk_drew ?_|refine blk_alloc ?_ _));exact BK383.out) NB383_0.out (by simp));have n4_:=Aside0.mk (KeepBut.trans (by repeat (first|(with_reducible first|exact HK.out|apply KeepBut.set_|apply keep_drewN|apply keep_drew|apply keep_alloc|refine keep_far ?_ GW373.out _|refine keep_far ?_ GW383.out _)|exact HK.out)) hk (.inl rfl));have n5_:=Aside0.mk (hb);have n6_:=Aside0.mk (hi);clear BK373;clear HO376;clear HO380;clear BK383;clear HK;clear HB;clear HI0;have BK373:=n0_;have HO376:=n1_;have HO380:=n2_;have BK383:=n3_;have HK:=n4_;have HB:=n5_;have HI0:=n6_;clear n0_ n1_ n2_ n3_ n4_ n5_ n6_;(try clear hb);(try clear hb2);(try clear hk);(try clear hi))|((with_reducible refine gate_callee (f:=105) rfl ?_);refine goesL_ (some 18) rfl rfl Try.func105 (by kernel_rfl) rfl #[.pointer (some ⟨g,0,none⟩),.int .i64 10] rfl (by (try simp only [List.map_toArray,List.map_cons,List.map_nil]);first|done|rfl|(simp only [List.length_drop,List.length_take];rfl)) ?_;(with_reducible refine (spec_l1Below.calls g s0_0 t385 t386 10 t387 t388 t389 w0 _ ?side1 ?side2 A4.out).mono ?_);(case side1=>repeat (first|(with_reducible first|exact HI0.out|apply IsS142.alloc|apply IsS142.drewN|apply IsS142.drew|apply IsS142.set_1|apply IsS142.set_2|refine IsS142.far ?_ NB0_373.out _|refine IsS142.far ?_ NB0_383.out _)|exact HI0.out));(case side2=>repeat (first|(with_reducible first|exact HB.out|apply below_alloc|apply pw_below_drewN|apply below_drew1|refine below_set ?_ (IsS142.ge HI0.out)|refine below_set ?_ GE373.out|refine below_set ?_ GE383.out)|exact HB.out));rintro e w114 ⟨rfl,hi,hb,hk⟩;refine ⟨_,rfl,?_⟩;have n0_:=Aside0.mk (KeepBut.blk hk (g':=gb373) (o:=.cells #[.int .i64 0,.slice none 0 0] 43 (0,0)) (by (with_reducible repeat (first|refine blk_drewN ?_ _|refine blk_drew ?_|refine blk_alloc ?_ _));exact BK373.out) NB373_0.out (by simp));have n1_:=Aside0.mk (Kd.R_mono (Kd.R_keep (IsS142.apart (show IsS142 w0 _ g s0_0 t385 t386 from by repeat (first|(with_reducible first|exact HI0.out|apply IsS142.alloc|apply IsS142.drewN|apply IsS142.drew|apply IsS142.set_1|apply IsS142.set_2|refine IsS142.far ?_ NB0_373.out _|refine IsS142.far ?_ NB0_383.out _)|exact HI0.out)) (by (with_reducible repeat (first|apply Kd.R_alloc|apply Kd.R_drewN|apply Kd.R_drew));exact HO376.out) (by decide)) hk (fun _ h=>h.2)) (fun _ h=>h.1));have n2_:=Aside0.mk (Kd.S_mono (Kd.S_keep (IsS142.apartS (show IsS142 w0 _ g s0_0 t385 t386 from by repeat (first|(with_reducible first|exact HI0.out|apply IsS142.alloc|apply IsS142.drewN|apply IsS142.drew|apply IsS142.set_1|apply IsS142.set_2|refine IsS142.far ?_ NB0_373.out _|refine IsS142.far ?_ NB0_383.out _)|exact HI0.out)) (by (with_reducible repeat (first|apply Kd.S_alloc|apply Kd.S_drewN|apply Kd.S_drew));exact HO380.out) (by decide)) hk (fun _ h=>h.2)) (fun _ h=>h.1));have n3_:=Aside0.mk (KeepBut.blk hk (g':=gb383) (o:=.cells #[.int .i64 t377,.slice Ao112 t378.length co112] 43 (0,0)) (by (with_reducible repeat (first|refine blk_drewN ?_ _|refine blk_drew ?_|refine blk_alloc ?_ _));exact BK383.out) NB383_0.out (by simp));have n4_:=Aside0.mk (KeepBut.trans (by repeat (first|(with_reducible first|exact HK.out|apply KeepBut.set_|apply keep_drewN|apply keep_drew|apply keep_alloc|refine keep_far ?_ GW373.out _|refine keep_far ?_ GW383.out _)|exact HK.out)) hk (.inl rfl));have n5_:=Aside0.mk (hb);have n6_:=Aside0.mk (hi);clear BK373;clear HO376;clear HO380;clear BK383;clear HK;clear HB;clear HI0;have BK373:=n0_;have HO376:=n1_;have HO380:=n2_;have BK383:=n3_;have HK:=n4_;have HB:=n5_;have HI0:=n6_;clear n0_ n1_ n2_ n3_ n4_ n5_ n6_;(try clear hb);(try clear hb2);(try clear hk);(try clear hi)))
      have n0_:=Aside0.mk (Kd.R_drew HO376.out)
      have n1_:=Aside0.mk (Kd.S_drew HO380.out)
      have n2_:=Aside0.mk (blk_drew BK373.out)
      have n3_:=Aside0.mk (blk_drew BK383.out)
      have n4_:=Aside0.mk (IsS142.drew HI0.out)
      have n5_:=Aside0.mk (keep_drew HK.out)
      have n6_:=Aside0.mk (below_drew1 HB.out)
      clear HO376
      clear HO380
      clear BK373
      clear BK383
      clear HI0
      clear HK
      clear HB
      have HO376:=n0_
      have HO380:=n1_
      have BK373:=n2_
      have BK383:=n3_
      have HI0:=n4_
      have HK:=n5_
      have HB:=n6_
      clear n0_ n1_ n2_ n3_ n4_ n5_ n6_
      refine start_ (n:=4) (S:=fun w'=>w'.cell? ⟨gb383,0,none⟩=some (.int .i64 t377)∧w'.cell? ⟨gb383,1,none⟩=some (.slice Ao112 t378.length co112)) (ds:=[]) #[false,false,false,false] (by kernel_rfl) rfl rfl ⟨(blk_cell BK383.out 0).trans rfl,(blk_cell BK383.out 1).trans rfl⟩ (fun hHeld=>?_)
      generalize w114.drew=w115 at HO376 HO380 BK373 BK383 HI0 HK HB hHeld ⊢
      refine pure_ (i:=0) (N:=some 63) (v:=?_) (a':=?_) #[true,false,false,false] rfl rfl (by kernel_rfl) (fun _ _ _ h=>h) (Or.inl ⟨by rfl,?_⟩) ?_ ?_
      rotate_left
      ·intro w'
       go_simp
       with_reducible rfl
      rotate_left
      ·simp only [Act.put,List.setIfInBounds_toArray,List.set_cons_zero,List.set_cons_succ,i64_w,i32_w]
       rfl
      refine pure_ (i:=2) (N:=some 2) (v:=?_) (a':=?_) #[true,false,true,false] rfl rfl (by kernel_rfl) (fun _ _ _ h=>h) (Or.inl ⟨by rfl,?_⟩) ?_ ?_
      rotate_left
      ·intro w'
       go_simp
       with_reducible rfl
      rotate_left
      ·simp only [Act.put,List.setIfInBounds_toArray,List.set_cons_zero,List.set_cons_succ,i64_w,i32_w]
       rfl
      refine take_ (i:=1) (N:=some 64) (v:=?_) (a':=?_) #[true,true,true,false] rfl rfl (by kernel_rfl) (fun _ _ _ h=>h) (Or.inl ⟨by rfl,?_⟩) hHeld ?_ ?_
      rotate_left
      ·rintro w' ⟨s0,s1⟩
       go_simp
       with_reducible rfl
      rotate_left
      ·simp only [Act.put,List.setIfInBounds_toArray,List.set_cons_zero,List.set_cons_succ,i64_w,i32_w]
       rfl
      refine one_ (i:=3) (N:=none) #[true,true,true,true] rfl rfl (by kernel_rfl) (by decide) (fun K hK=>?_)
      have hs116:w115.cell? ⟨gb373,0,none⟩=some (.int .i64 0):=(blk_cell BK373.out 0).trans rfl
      have hfs116:=blk_frozen BK373.out 0
      have hns116_1:=NB383_373.out
      have hms116_1:=NB373_383.out
      have hs117:w115.cell? ⟨gb373,1,none⟩=some (.slice none 0 0):=(blk_cell BK373.out 1).trans rfl
      have hfs117:=blk_frozen BK373.out 1
      have hns117_1:=NB383_373.out
      have hms117_1:=NB373_383.out
      refine skip_ (w1:=?_) (by rfl) rfl ?_ ?_
      rotate_left
      ·go_simp
       rfl
      refine hK.out _ _ ⟨((cell_far (p:=⟨gb373,_,none⟩) NB383_373.out _).trans (((cell_far (p:=⟨gb373,_,none⟩) NB383_373.out _).trans (hHeld.1)))),((cell_far (p:=⟨gb373,_,none⟩) NB383_373.out _).trans (((cell_far (p:=⟨gb373,_,none⟩) NB383_373.out _).trans (hHeld.2))))⟩ (fun hHeld=>?_)
      clear hK K
      refine done_ (by kernel_rfl) ?_
      try go_wp2
      refine bodyPost_ret (results_tc rfl _ _ gb373 43 #[.int .i64 t377,.slice Ao112 t378.length co112] (0,0) _ rfl (by (with_reducible repeat (first|refine blk_drewN ?_ _|refine blk_drew ?_|refine blk_alloc ?_ _));refine blk_put (cs:=#[.int .i64 t377,.slice none 0 0]) ?_ 1 _ rfl;(with_reducible repeat (first|refine blk_drewN ?_ _|refine blk_drew ?_|refine blk_alloc ?_ _));refine blk_put (cs:=#[.int .i64 0,.slice none 0 0]) ?_ 0 _ rfl;(with_reducible repeat (first|refine blk_drewN ?_ _|refine blk_drew ?_|refine blk_alloc ?_ _));exact BK373.out) Try.underlying43 rfl (by kernel_rfl)) rfl ?_
      exact ⟨_,_,by first|rfl|(simp [errW_none,errW_some] <;> rfl)|(simp [*,errW_none,errW_some] <;> rfl),by (with_reducible repeat (first|apply Kd.R_alloc|apply Kd.R_drewN|apply Kd.R_drew));exact Kd.R_mono (Kd.R_far (p:=⟨gb373,1,none⟩) (Kd.R_far (p:=⟨gb373,0,none⟩) (Kd.R_types HO376.out BK373.out (by decide)) (fun _ hk=>hk.2) (.int .i64 t377)) (fun _ hk=>hk.2) (.slice Ao112 t378.length co112)) (fun _ hk=>trivial),by (with_reducible repeat (first|apply Kd.S_alloc|apply Kd.S_drewN|apply Kd.S_drew));exact Kd.S_mono (Kd.S_far (p:=⟨gb373,1,none⟩) (Kd.S_far (p:=⟨gb373,0,none⟩) (Kd.S_types HO380.out BK373.out (by decide)) (fun _ hk=>hk.2) (.int .i64 t377)) (fun _ hk=>hk.2) (.slice Ao112 t378.length co112)) (fun _ hk=>trivial),by repeat (first|(with_reducible first|exact HI0.out|apply IsS142.alloc|apply IsS142.drewN|apply IsS142.drew|apply IsS142.set_1|apply IsS142.set_2|refine IsS142.far ?_ NB0_373.out _|refine IsS142.far ?_ NB0_383.out _)|exact HI0.out),by repeat (first|(with_reducible first|exact HB.out|apply below_alloc|apply pw_below_drewN|apply below_drew1|refine below_set ?_ (IsS142.ge HI0.out)|refine below_set ?_ GE373.out|refine below_set ?_ GE383.out)|exact HB.out),by repeat (first|(with_reducible first|exact HK.out|apply KeepBut.set_|apply keep_drewN|apply keep_drew|apply keep_alloc|refine keep_far ?_ GW373.out _|refine keep_far ?_ GW383.out _)|exact HK.out)⟩
end Go.Proofs.Ytbhllgifciaepaa.PFnPlaces
