/- Trimmed by a program of this session (trim.py). Not trusted: Lean checks it. -/
import Derived.Test.YtbhllgifciaepaaTLBestPFnBestx0
import Derived.Test.YtbhllgifciaepaaTLBestPFnBestx1
import Derived.Test.YtbhllgifciaepaaTLBestPFnBestx6
namespace Go.Proofs.Ytbhllgifciaepaa.PFnBest
open Go.RowKit Go.Proofs.YtbhllgifciaepaaW.PrintWords Go.Proofs.YtbhllgifciaepaaW.PrintLast Go.Proofs.YtbhllgifciaepaaW.PrintMore Go.Proofs.Ytbhllgifciaepaa.St
attribute [local go_sem] max2_int min2_int max_two min_two max_three min_three max_four min_four
set_option linter.unusedVariables false
set_option linter.unusedSimpArgs false
def spec_DrawBest.l0:Nat→List (S76)→Int→List Int→Int→Int→Int→List (S29)→List Int→Option (Int × (List (S29)) × List Int × (List (S76)))
 | 0,_,_,_,_,_,_,_,_=>none
 | k+1,x6,x9,x344000,x344001,x344002,x354000,x354001,x355000=>if x9 > 0 then ((spec_l1Below.f x344000 x344001 x344002 7).bind fun bt358=>(if x355000.length < 17592186044416 then (spec_DrawBest.l0 k x6 (wrap64 (x9 - 1)) x344000 bt358.2.1 bt358.2.2 x354000 x354001 (x355000 ++ [wrap64 (1+bt358.1)])) else (none))) else (some (x354000,x354001,x355000,x6))
def spec_DrawBest.f (k:Nat) (l0:List Int):Option (Int × (List (S29)) × List Int × (List (S76))):=(spec_l1New.f k l0).bind fun bt340=>((spec_l5Any.f k bt340.1 bt340.2.1 bt340.2.2).bind fun bt344=>((spec_l1Below.f bt340.1 bt344.2.2.2.1 bt344.2.2.2.2 4).bind fun bt355=>(spec_DrawBest.l0 k bt344.1 bt355.1 bt340.1 bt355.2.1 bt355.2.2 bt344.2.1 bt344.2.2.1 ([]:List Int))))
def spec_DrawBest.T7:Bool × List (List Nat × List Nat):=(true,[([],[]),([0],[0]),([],[]),([2],[2]),([3],[3]),([4],[4]),([1,5,3],[1,5]),([0,1,2,3,4,5,6],[]),([7,6,6,0,1,2,3,4,5,6],[6,7])])
def spec_DrawBest.B7:List Nat:=[0,1,0,4,12,28,63,127,255]
theorem spec_DrawBest.tab7:rtab .any (opsOf Try.f46 7)=spec_DrawBest.T7:=by kernel_rfl
theorem spec_DrawBest.bits7:waitsOk spec_DrawBest.T7.2 spec_DrawBest.B7=true:=by kernel_rfl
set_option maxHeartbeats 8000000 in
set_option maxRecDepth 100000 in
theorem spec_DrawBest.calls (k:Nat) (A0:Option Addr) (c0:Nat) (l0:List Int) (r1:Int) (r2:List (S29)) (r3:List Int) (r4:List (S76)) (w:World) (hr0:Kd.C (Kd.int .u8) w A0 l0.length l0) (hc0:l0.length≤c0) (h:spec_DrawBest.f k l0=some (r1,r2,r3,r4)) :
  Calls Try.prog 46 #[.slice A0 l0.length c0] w fun e w'=>∃ v1_ v2_ v3_:Value,e = .returned (.tuple #[.agg #[.int .i64 r1,v1_],.agg #[v2_],v3_])∧Kd.S k29 29 w' w.heap.size (fun k_=>some k_ ≠ (v2_:Value).ownBlock) v1_ r2∧Kd.R (Kd.int .i64) 3 w' w.heap.size (fun _=>True) v2_ r3∧Kd.R k76 76 w' w.heap.size (fun _=>True) v3_ r4∧Below w.heap.size w w':=by
 have hu43:=Try.underlying43
 have hu29:=Try.underlying29
 have HR0:=Aside0.mk hr0
 have HC0:=Aside0.mk hc0
 clear hr0 hc0
 have HB:=Aside0.mk (Below.refl w.heap.size w)
 have H:((spec_l1New.f k l0).bind fun bt340=>((spec_l5Any.f k bt340.1 bt340.2.1 bt340.2.2).bind fun bt344=>((spec_l1Below.f bt340.1 bt344.2.2.2.1 bt344.2.2.2.2 4).bind fun bt355=>(spec_DrawBest.l0 k bt344.1 bt355.1 bt340.1 bt355.2.1 bt355.2.2 bt344.2.1 bt344.2.2.1 ([]:List Int)))))=some (r1,r2,r3,r4):=h
 clear h
 replace H:=Option.bind_eq_some_iff.mp H
 obtain ⟨⟨t340,t341,t342⟩,A20,H⟩:=H
 try dsimp only at H
 have A2:=Aside0.mk A20
 clear A20
 replace H:=Option.bind_eq_some_iff.mp H
 obtain ⟨⟨t344,t347,t348,t351,t352⟩,A30,H⟩:=H
 try dsimp only at H
 have A3:=Aside0.mk A30
 clear A30
 replace H:=Option.bind_eq_some_iff.mp H
 obtain ⟨⟨t355,t356,t357⟩,A40,H⟩:=H
 try dsimp only at H
 have A4:=Aside0.mk A40
 clear A40
 have H':=Aside0.mk H
 clear H
 go_enter Try.func46,Try.ntmps46
 go_wp2_with (first|((with_reducible refine gate_dst (N:=2) rfl ?_);refine box_event ?hg (N:=2) ?hd (cs:=#[.int .i64 0,.slice none 0 0]) (t:=43) ?hr ?_;(case hd=>rfl);(case hg=>rfl);(case hr=>first|(go_simp;done)|(go_simp;rfl));intro gb338 hg w5 hbox hb;have n0_:=bs hb;have n1_:=Aside0.mk (hbox);have n2_:=Aside0.mk ((by rw [hg];exact (below_size be):w.heap.size≤gb338));have n3_:=Aside0.mk ((by rw [hg];exact (below_size be):w.heap.size≤gb338));clear HB;have HB:=n0_;have BK338:=n1_;have GW338:=n2_;have GE338:=n3_;clear n0_ n1_ n2_ n3_;clear hb hbox hg)|((with_reducible refine gate_dst (N:=3) rfl ?_);refine box_event ?hg (N:=3) ?hd (cs:=#[.slice none 0 0]) (t:=29) ?hr ?_;(case hd=>rfl);(case hg=>rfl);(case hr=>first|(go_simp;done)|(go_simp;rfl));intro gb339 hg w6 hbox hb;have n0_:=Aside0.mk (blk_below (g:=gb338) (o:=.cells #[.int .i64 0,.slice none 0 0] 43 (0,0)) (bk BK338) hb);have n1_:=bs hb;have n2_:=Aside0.mk (hbox);have n3_:=Aside0.mk ((by rw [hg];exact (below_size be):w.heap.size≤gb339));have n4_:=Aside0.mk ((by rw [hg];exact (below_size be):w.heap.size≤gb339));have n5_:=Aside0.mk ((by rw [hg];exact Nat.ne_of_lt (blk_lt (g:=gb338) (o:=.cells #[.int .i64 0,.slice none 0 0] 43 (0,0)) (bk BK338)):gb338 ≠ gb339));have n6_:=Aside0.mk ((by rw [hg];exact Nat.ne_of_gt (blk_lt (g:=gb338) (o:=.cells #[.int .i64 0,.slice none 0 0] 43 (0,0)) (bk BK338)):gb339 ≠ gb338));clear BK338;clear HB;have BK338:=n0_;have HB:=n1_;have BK339:=n2_;have GW339:=n3_;have GE339:=n4_;have NB338_339:=n5_;have NB339_338:=n6_;clear n0_ n1_ n2_ n3_ n4_ n5_ n6_;clear hb hbox hg)|((with_reducible refine gate_callee (f:=103) rfl ?_);refine goesL_ (some 11) rfl rfl Try.func103 (by kernel_rfl) rfl #[.slice A0 l0.length c0] rfl (by (try simp only [List.map_toArray,List.map_cons,List.map_nil]);first|done|rfl|(simp only [List.length_drop,List.length_take];rfl)) ?_;(with_reducible refine (spec_l1New.calls k _ _ l0 t340 t341 t342 w _ ?side1 ?side2 ?side3 A2.out).mono ?_);(case side1=>exact be);(case side2=>exact HR0.out);(case side3=>exact HC0.out);rintro e w7 ⟨g343,rfl,hi,hb,hb2⟩;refine ⟨_,rfl,?_⟩;have n0_:=Aside0.mk (blk_below (g:=gb338) (o:=.cells #[.int .i64 0,.slice none 0 0] 43 (0,0)) (bk BK338) hb2);have n1_:=Aside0.mk (blk_below (g:=gb339) (o:=.cells #[.slice none 0 0] 29 (0,0)) (bk BK339) hb2);have n2_:=Aside0.mk (hb);have n3_:=Aside0.mk (hi);have n4_:=Aside0.mk (IsS142.ne_blk hi (blk_below (g:=gb338) (o:=.cells #[.int .i64 0,.slice none 0 0] 43 (0,0)) (bk BK338) hb2) (by decide));have n5_:=Aside0.mk (Ne.symm (IsS142.ne_blk hi (blk_below (g:=gb338) (o:=.cells #[.int .i64 0,.slice none 0 0] 43 (0,0)) (bk BK338) hb2) (by decide)));have n6_:=Aside0.mk (IsS142.ne_blk hi (blk_below (g:=gb339) (o:=.cells #[.slice none 0 0] 29 (0,0)) (bk BK339) hb2) (by decide));have n7_:=Aside0.mk (Ne.symm (IsS142.ne_blk hi (blk_below (g:=gb339) (o:=.cells #[.slice none 0 0] 29 (0,0)) (bk BK339) hb2) (by decide)));clear BK338;clear BK339;clear HB;have BK338:=n0_;have BK339:=n1_;have HB:=n2_;have HI343:=n3_;have NB343_338:=n4_;have NB338_343:=n5_;have NB343_339:=n6_;have NB339_343:=n7_;clear n0_ n1_ n2_ n3_ n4_ n5_ n6_ n7_;(try clear hb);(try clear hb2);(try clear hk);(try clear hi))|((with_reducible refine gate_callee (f:=104) rfl ?_);refine goesL_ (some 14) rfl rfl Try.func104 (by kernel_rfl) rfl #[.pointer (some ⟨g343,0,none⟩)] rfl (by (try simp only [List.map_toArray,List.map_cons,List.map_nil]);first|done|rfl|(simp only [List.length_drop,List.length_take];rfl)) ?_;(with_reducible refine (spec_l5Any.calls k g343 t340 t341 t342 t344 t347 t348 t351 t352 w _ ?side1 ?side2 A3.out).mono ?_);(case side1=>repeat (first|(with_reducible first|exact HI343.out|apply IsS142.alloc|apply IsS142.drewN|apply IsS142.drew|apply IsS142.set_1|apply IsS142.set_2|refine IsS142.far ?_ NB343_338.out _|refine IsS142.far ?_ NB343_339.out _)|exact HI343.out));(case side2=>repeat (first|(with_reducible first|exact HB.out|apply below_alloc|apply pw_below_drewN|apply below_drew1|refine below_set ?_ (IsS142.ge HI343.out)|refine below_set ?_ GE338.out|refine below_set ?_ GE339.out)|exact HB.out));rintro e w8 ⟨v345,v349,rfl,ho0,ho1,hi,hb,hk⟩;refine ⟨_,rfl,?_⟩;have n0_:=Aside0.mk (KeepBut.blk hk (g':=gb338) (o:=.cells #[.int .i64 0,.slice none 0 0] 43 (0,0)) (bk BK338) NB338_343.out (by simp));have n1_:=Aside0.mk (KeepBut.blk hk (g':=gb339) (o:=.cells #[.slice none 0 0] 29 (0,0)) (bk BK339) NB339_343.out (by simp));have n2_:=Aside0.mk (Kd.R_lower ho0 (below_size (by repeat (first|(with_reducible first|exact HB.out|apply below_alloc|apply pw_below_drewN|apply below_drew1|refine below_set ?_ (IsS142.ge HI343.out)|refine below_set ?_ GE338.out|refine below_set ?_ GE339.out)|exact HB.out))));have n3_:=Aside0.mk (Kd.S_lower (Kd.S_newB ho1 (g:=gb339) (o:=.cells #[.slice none 0 0] 29 (0,0)) (bk BK339)) (below_size (by repeat (first|(with_reducible first|exact HB.out|apply below_alloc|apply pw_below_drewN|apply below_drew1|refine below_set ?_ (IsS142.ge HI343.out)|refine below_set ?_ GE338.out|refine below_set ?_ GE339.out)|exact HB.out))));have n4_:=Aside0.mk (hb);have n5_:=Aside0.mk (hi);clear BK338;clear BK339;clear HB;clear HI343;have BK338:=n0_;have BK339:=n1_;have HO346:=n2_;have HO350:=n3_;have HB:=n4_;have HI343:=n5_;clear n0_ n1_ n2_ n3_ n4_ n5_;(try clear hb);(try clear hb2);(try clear hk);(try clear hi);(try clear ho0);(try clear ho1))|((with_reducible refine gate_dst (N:=7) rfl ?_);refine box_event ?hg (N:=7) ?hd (cs:=#[.int .i64 0,.slice none 0 0]) (t:=43) ?hr ?_;(case hd=>rfl);(case hg=>rfl);(case hr=>first|(go_simp;done)|(go_simp;rfl));intro gb353 hg w9 hbox hb;have n0_:=Aside0.mk (Kd.R_below (rR HO346) hb);have n1_:=Aside0.mk (Kd.S_below (rS HO350) hb);have n2_:=Aside0.mk (blk_below (g:=gb338) (o:=.cells #[.int .i64 0,.slice none 0 0] 43 (0,0)) (bk BK338) hb);have n3_:=Aside0.mk (blk_below (g:=gb339) (o:=.cells #[.slice none 0 0] 29 (0,0)) (bk BK339) hb);have n4_:=Aside0.mk (IsS142.below (by repeat (first|(with_reducible first|exact HI343.out|apply IsS142.alloc|apply IsS142.drewN|apply IsS142.drew|apply IsS142.set_1|apply IsS142.set_2|refine IsS142.far ?_ NB343_338.out _|refine IsS142.far ?_ NB343_339.out _)|exact HI343.out)) hb);have n5_:=Aside0.mk (below_step (by repeat (first|(with_reducible first|exact HB.out|apply below_alloc|apply pw_below_drewN|apply below_drew1|refine below_set ?_ (IsS142.ge HI343.out)|refine below_set ?_ GE338.out|refine below_set ?_ GE339.out)|exact HB.out)) hb);have n6_:=Aside0.mk (hbox);have n7_:=Aside0.mk ((by rw [hg];exact (below_size (by repeat (first|(with_reducible first|exact HB.out|apply below_alloc|apply pw_below_drewN|apply below_drew1|refine below_set ?_ (IsS142.ge HI343.out)|refine below_set ?_ GE338.out|refine below_set ?_ GE339.out)|exact HB.out))):w.heap.size≤gb353));have n8_:=Aside0.mk ((by rw [hg];exact (below_size (by repeat (first|(with_reducible first|exact HB.out|apply below_alloc|apply pw_below_drewN|apply below_drew1|refine below_set ?_ (IsS142.ge HI343.out)|refine below_set ?_ GE338.out|refine below_set ?_ GE339.out)|exact HB.out))):w.heap.size≤gb353));have n9_:=Aside0.mk ((by rw [hg];exact Nat.ne_of_lt (blk_lt (g:=gb338) (o:=.cells #[.int .i64 0,.slice none 0 0] 43 (0,0)) (bk BK338)):gb338 ≠ gb353));have n10_:=Aside0.mk ((by rw [hg];exact Nat.ne_of_gt (blk_lt (g:=gb338) (o:=.cells #[.int .i64 0,.slice none 0 0] 43 (0,0)) (bk BK338)):gb353 ≠ gb338));have n11_:=Aside0.mk ((by rw [hg];exact Nat.ne_of_lt (blk_lt (g:=gb339) (o:=.cells #[.slice none 0 0] 29 (0,0)) (bk BK339)):gb339 ≠ gb353));have n12_:=Aside0.mk ((by rw [hg];exact Nat.ne_of_gt (blk_lt (g:=gb339) (o:=.cells #[.slice none 0 0] 29 (0,0)) (bk BK339)):gb353 ≠ gb339));have n13_:=Aside0.mk ((by rw [hg];exact Nat.ne_of_lt (IsS142.lt (show IsS142 w _ g343 t340 t351 t352 from by repeat (first|(with_reducible first|exact HI343.out|apply IsS142.alloc|apply IsS142.drewN|apply IsS142.drew|apply IsS142.set_1|apply IsS142.set_2|refine IsS142.far ?_ NB343_338.out _|refine IsS142.far ?_ NB343_339.out _)|exact HI343.out))):g343 ≠ gb353));have n14_:=Aside0.mk ((by rw [hg];exact Nat.ne_of_gt (IsS142.lt (show IsS142 w _ g343 t340 t351 t352 from by repeat (first|(with_reducible first|exact HI343.out|apply IsS142.alloc|apply IsS142.drewN|apply IsS142.drew|apply IsS142.set_1|apply IsS142.set_2|refine IsS142.far ?_ NB343_338.out _|refine IsS142.far ?_ NB343_339.out _)|exact HI343.out))):gb353 ≠ g343));clear HO346;clear HO350;clear BK338;clear BK339;clear HI343;clear HB;have HO346:=n0_;have HO350:=n1_;have BK338:=n2_;have BK339:=n3_;have HI343:=n4_;have HB:=n5_;have BK353:=n6_;have GW353:=n7_;have GE353:=n8_;have NB338_353:=n9_;have NB353_338:=n10_;have NB339_353:=n11_;have NB353_339:=n12_;have NB343_353:=n13_;have NB353_343:=n14_;clear n0_ n1_ n2_ n3_ n4_ n5_ n6_ n7_ n8_ n9_ n10_ n11_ n12_ n13_ n14_;clear hb hbox hg;have hnb10:=NB353_338.out;have hnc10:=NB338_353.out;have hnb11:=NB353_339.out;have hnc11:=NB339_353.out;have hnb12:=NB353_343.out;have hnc12:=NB343_353.out;have hcz13_0:w9.cell? ⟨gb353,0,none⟩=some (.int .i64 0):=(blk_cell BK353.out 0).trans rfl;have hcz13_1:w9.cell? ⟨gb353,1,none⟩=some (.slice none 0 0):=(blk_cell BK353.out 1).trans rfl;have hfz13_0:=blk_frozen BK353.out 0;have hfz13_1:=blk_frozen BK353.out 1;obtain ⟨Ao14,co14,eo14⟩:=Kd.S_slice HO350.out;subst eo14)|((with_reducible refine gate_dst (N:=8) rfl ?_);refine box_event ?hg (N:=8) ?hd (cs:=#[.slice none 0 0]) (t:=29) ?hr ?_;(case hd=>rfl);(case hg=>rfl);(case hr=>first|(go_simp;done)|(go_simp;rfl));intro gb354 hg w15 hbox hb;have n0_:=Aside0.mk (Kd.R_below (by (with_reducible repeat (first|apply Kd.R_alloc|apply Kd.R_drewN|apply Kd.R_drew));exact (Kd.R_mono (Kd.R_far (p:=⟨gb353,1,none⟩) (Kd.R_far (p:=⟨gb353,0,none⟩) (Kd.R_types HO346.out BK353.out (by decide)) (fun _ hk=>hk.2) (.int .i64 t347)) (fun _ hk=>hk.2) (.slice Ao14 t348.length co14)) (fun _ h_=>h_.1))) hb);have n1_:=Aside0.mk (Kd.S_below (Kd.S_elderB (by (with_reducible repeat (first|apply Kd.S_alloc|apply Kd.S_drewN|apply Kd.S_drew));exact (Kd.S_mono (Kd.S_far (p:=⟨gb353,1,none⟩) (Kd.S_far (p:=⟨gb353,0,none⟩) (Kd.S_types HO350.out BK353.out (by decide)) (fun _ hk=>hk.2) (.int .i64 t347)) (fun _ hk=>hk.2) (.slice Ao14 t348.length co14)) (fun _ h_=>h_.1))) gb354 (Nat.le_of_eq hg.symm)) hb);have n2_:=Aside0.mk (blk_below (g:=gb338) (o:=.cells #[.int .i64 0,.slice none 0 0] 43 (0,0)) (by (with_reducible repeat (first|refine blk_drewN ?_ _|refine blk_drew ?_|refine blk_alloc ?_ _));refine blk_far ?_ NB338_353.out _;(with_reducible repeat (first|refine blk_drewN ?_ _|refine blk_drew ?_|refine blk_alloc ?_ _));refine blk_far ?_ NB338_353.out _;(with_reducible repeat (first|refine blk_drewN ?_ _|refine blk_drew ?_|refine blk_alloc ?_ _));exact BK338.out) hb);have n3_:=Aside0.mk (blk_below (g:=gb339) (o:=.cells #[.slice none 0 0] 29 (0,0)) (by (with_reducible repeat (first|refine blk_drewN ?_ _|refine blk_drew ?_|refine blk_alloc ?_ _));refine blk_far ?_ NB339_353.out _;(with_reducible repeat (first|refine blk_drewN ?_ _|refine blk_drew ?_|refine blk_alloc ?_ _));refine blk_far ?_ NB339_353.out _;(with_reducible repeat (first|refine blk_drewN ?_ _|refine blk_drew ?_|refine blk_alloc ?_ _));exact BK339.out) hb);have n4_:=Aside0.mk (IsS142.below (show IsS142 w ((w9.setCell ⟨gb353,0,none⟩ (.int .i64 t347)).setCell ⟨gb353,1,none⟩ (.slice Ao14 t348.length co14)) g343 t340 t351 t352 from by repeat (first|(with_reducible first|exact HI343.out|apply IsS142.alloc|apply IsS142.drewN|apply IsS142.drew|apply IsS142.set_1|apply IsS142.set_2|refine IsS142.far ?_ NB343_338.out _|refine IsS142.far ?_ NB343_339.out _|refine IsS142.far ?_ NB343_353.out _)|exact HI343.out)) hb);have n5_:=Aside0.mk (blk_below (g:=gb353) (o:=.cells #[.int .i64 t347,.slice Ao14 t348.length co14] 43 (0,0)) (by (with_reducible repeat (first|refine blk_drewN ?_ _|refine blk_drew ?_|refine blk_alloc ?_ _));refine blk_put (cs:=#[.int .i64 t347,.slice none 0 0]) ?_ 1 _ rfl;(with_reducible repeat (first|refine blk_drewN ?_ _|refine blk_drew ?_|refine blk_alloc ?_ _));refine blk_put (cs:=#[.int .i64 0,.slice none 0 0]) ?_ 0 _ rfl;(with_reducible repeat (first|refine blk_drewN ?_ _|refine blk_drew ?_|refine blk_alloc ?_ _));exact BK353.out) hb);have n6_:=Aside0.mk (below_step (by repeat (first|(with_reducible first|exact HB.out|apply below_alloc|apply pw_below_drewN|apply below_drew1|refine below_set ?_ (IsS142.ge HI343.out)|refine below_set ?_ GE338.out|refine below_set ?_ GE339.out|refine below_set ?_ GE353.out)|exact HB.out)) hb);have n7_:=Aside0.mk (hbox);have n8_:=Aside0.mk ((by rw [hg];exact (below_size (by repeat (first|(with_reducible first|exact HB.out|apply below_alloc|apply pw_below_drewN|apply below_drew1|refine below_set ?_ (IsS142.ge HI343.out)|refine below_set ?_ GE338.out|refine below_set ?_ GE339.out|refine below_set ?_ GE353.out)|exact HB.out))):w.heap.size≤gb354));have n9_:=Aside0.mk ((by rw [hg];exact (below_size (by repeat (first|(with_reducible first|exact HB.out|apply below_alloc|apply pw_below_drewN|apply below_drew1|refine below_set ?_ (IsS142.ge HI343.out)|refine below_set ?_ GE338.out|refine below_set ?_ GE339.out|refine below_set ?_ GE353.out)|exact HB.out))):w.heap.size≤gb354));have n10_:=Aside0.mk ((by rw [hg];exact Nat.ne_of_lt (blk_lt (g:=gb338) (o:=.cells #[.int .i64 0,.slice none 0 0] 43 (0,0)) (by (with_reducible repeat (first|refine blk_drewN ?_ _|refine blk_drew ?_|refine blk_alloc ?_ _));refine blk_far ?_ NB338_353.out _;(with_reducible repeat (first|refine blk_drewN ?_ _|refine blk_drew ?_|refine blk_alloc ?_ _));refine blk_far ?_ NB338_353.out _;(with_reducible repeat (first|refine blk_drewN ?_ _|refine blk_drew ?_|refine blk_alloc ?_ _));exact BK338.out)):gb338 ≠ gb354));have n11_:=Aside0.mk ((by rw [hg];exact Nat.ne_of_gt (blk_lt (g:=gb338) (o:=.cells #[.int .i64 0,.slice none 0 0] 43 (0,0)) (by (with_reducible repeat (first|refine blk_drewN ?_ _|refine blk_drew ?_|refine blk_alloc ?_ _));refine blk_far ?_ NB338_353.out _;(with_reducible repeat (first|refine blk_drewN ?_ _|refine blk_drew ?_|refine blk_alloc ?_ _));refine blk_far ?_ NB338_353.out _;(with_reducible repeat (first|refine blk_drewN ?_ _|refine blk_drew ?_|refine blk_alloc ?_ _));exact BK338.out)):gb354 ≠ gb338));have n12_:=Aside0.mk ((by rw [hg];exact Nat.ne_of_lt (blk_lt (g:=gb339) (o:=.cells #[.slice none 0 0] 29 (0,0)) (by (with_reducible repeat (first|refine blk_drewN ?_ _|refine blk_drew ?_|refine blk_alloc ?_ _));refine blk_far ?_ NB339_353.out _;(with_reducible repeat (first|refine blk_drewN ?_ _|refine blk_drew ?_|refine blk_alloc ?_ _));refine blk_far ?_ NB339_353.out _;(with_reducible repeat (first|refine blk_drewN ?_ _|refine blk_drew ?_|refine blk_alloc ?_ _));exact BK339.out)):gb339 ≠ gb354));have n13_:=Aside0.mk ((by rw [hg];exact Nat.ne_of_gt (blk_lt (g:=gb339) (o:=.cells #[.slice none 0 0] 29 (0,0)) (by (with_reducible repeat (first|refine blk_drewN ?_ _|refine blk_drew ?_|refine blk_alloc ?_ _));refine blk_far ?_ NB339_353.out _;(with_reducible repeat (first|refine blk_drewN ?_ _|refine blk_drew ?_|refine blk_alloc ?_ _));refine blk_far ?_ NB339_353.out _;(with_reducible repeat (first|refine blk_drewN ?_ _|refine blk_drew ?_|refine blk_alloc ?_ _));exact BK339.out)):gb354 ≠ gb339));have n14_:=Aside0.mk ((by rw [hg];exact Nat.ne_of_lt (blk_lt (g:=gb353) (o:=.cells #[.int .i64 t347,.slice Ao14 t348.length co14] 43 (0,0)) (by (with_reducible repeat (first|refine blk_drewN ?_ _|refine blk_drew ?_|refine blk_alloc ?_ _));refine blk_put (cs:=#[.int .i64 t347,.slice none 0 0]) ?_ 1 _ rfl;(with_reducible repeat (first|refine blk_drewN ?_ _|refine blk_drew ?_|refine blk_alloc ?_ _));refine blk_put (cs:=#[.int .i64 0,.slice none 0 0]) ?_ 0 _ rfl;(with_reducible repeat (first|refine blk_drewN ?_ _|refine blk_drew ?_|refine blk_alloc ?_ _));exact BK353.out)):gb353 ≠ gb354));have n15_:=Aside0.mk ((by rw [hg];exact Nat.ne_of_gt (blk_lt (g:=gb353) (o:=.cells #[.int .i64 t347,.slice Ao14 t348.length co14] 43 (0,0)) (by (with_reducible repeat (first|refine blk_drewN ?_ _|refine blk_drew ?_|refine blk_alloc ?_ _));refine blk_put (cs:=#[.int .i64 t347,.slice none 0 0]) ?_ 1 _ rfl;(with_reducible repeat (first|refine blk_drewN ?_ _|refine blk_drew ?_|refine blk_alloc ?_ _));refine blk_put (cs:=#[.int .i64 0,.slice none 0 0]) ?_ 0 _ rfl;(with_reducible repeat (first|refine blk_drewN ?_ _|refine blk_drew ?_|refine blk_alloc ?_ _));exact BK353.out)):gb354 ≠ gb353));have n16_:=Aside0.mk ((by rw [hg];exact Nat.ne_of_lt (IsS142.lt (show IsS142 w _ g343 t340 t351 t352 from by repeat (first|(with_reducible first|exact HI343.out|apply IsS142.alloc|apply IsS142.drewN|apply IsS142.drew|apply IsS142.set_1|apply IsS142.set_2|refine IsS142.far ?_ NB343_338.out _|refine IsS142.far ?_ NB343_339.out _|refine IsS142.far ?_ NB343_353.out _)|exact HI343.out))):g343 ≠ gb354));have n17_:=Aside0.mk ((by rw [hg];exact Nat.ne_of_gt (IsS142.lt (show IsS142 w _ g343 t340 t351 t352 from by repeat (first|(with_reducible first|exact HI343.out|apply IsS142.alloc|apply IsS142.drewN|apply IsS142.drew|apply IsS142.set_1|apply IsS142.set_2|refine IsS142.far ?_ NB343_338.out _|refine IsS142.far ?_ NB343_339.out _|refine IsS142.far ?_ NB343_353.out _)|exact HI343.out))):gb354 ≠ g343));clear HO346;clear HO350;clear BK338;clear BK339;clear HI343;clear BK353;clear HB;have HO346:=n0_;have HO350:=n1_;have BK338:=n2_;have BK339:=n3_;have HI343:=n4_;have BK353:=n5_;have HB:=n6_;have BK354:=n7_;have GW354:=n8_;have GE354:=n9_;have NB338_354:=n10_;have NB354_338:=n11_;have NB339_354:=n12_;have NB354_339:=n13_;have NB353_354:=n14_;have NB354_353:=n15_;have NB343_354:=n16_;have NB354_343:=n17_;clear n0_ n1_ n2_ n3_ n4_ n5_ n6_ n7_ n8_ n9_ n10_ n11_ n12_ n13_ n14_ n15_ n16_ n17_;clear hb hbox hg;have hnb16:=NB354_338.out;have hnc16:=NB338_354.out;have hnb17:=NB354_339.out;have hnc17:=NB339_354.out;have hnb18:=NB354_353.out;have hnc18:=NB353_354.out;have hnb19:=NB354_343.out;have hnc19:=NB343_354.out;have hcz20_0:w15.cell? ⟨gb354,0,none⟩=some (.slice none 0 0):=(blk_cell BK354.out 0).trans rfl;have hfz20_0:=blk_frozen BK354.out 0)|((with_reducible refine gate_callee (f:=105) rfl ?_);refine goesL_ (some 19) rfl rfl Try.func105 (by kernel_rfl) rfl #[.pointer (some ⟨g343,0,none⟩),.int .i64 4] rfl (by (try simp only [List.map_toArray,List.map_cons,List.map_nil]);first|done|rfl|(simp only [List.length_drop,List.length_take];rfl)) ?_;(with_reducible refine (spec_l1Below.calls g343 t340 t351 t352 4 t355 t356 t357 w _ ?side1 ?side2 A4.out).mono ?_);(case side1=>repeat (first|(with_reducible first|exact HI343.out|apply IsS142.alloc|apply IsS142.drewN|apply IsS142.drew|apply IsS142.set_1|apply IsS142.set_2|refine IsS142.far ?_ NB343_338.out _|refine IsS142.far ?_ NB343_339.out _|refine IsS142.far ?_ NB343_353.out _|refine IsS142.far ?_ NB343_354.out _)|exact HI343.out));(case side2=>repeat (first|(with_reducible first|exact HB.out|apply below_alloc|apply pw_below_drewN|apply below_drew1|refine below_set ?_ (IsS142.ge HI343.out)|refine below_set ?_ GE338.out|refine below_set ?_ GE339.out|refine below_set ?_ GE353.out|refine below_set ?_ GE354.out)|exact HB.out));rintro e w21 ⟨rfl,hi,hb,hk⟩;refine ⟨_,rfl,?_⟩;have n0_:=Aside0.mk (KeepBut.blk hk (g':=gb338) (o:=.cells #[.int .i64 0,.slice none 0 0] 43 (0,0)) (by (with_reducible repeat (first|refine blk_drewN ?_ _|refine blk_drew ?_|refine blk_alloc ?_ _));refine blk_far ?_ NB338_354.out _;(with_reducible repeat (first|refine blk_drewN ?_ _|refine blk_drew ?_|refine blk_alloc ?_ _));exact BK338.out) NB338_343.out (by simp));have n1_:=Aside0.mk (KeepBut.blk hk (g':=gb339) (o:=.cells #[.slice none 0 0] 29 (0,0)) (by (with_reducible repeat (first|refine blk_drewN ?_ _|refine blk_drew ?_|refine blk_alloc ?_ _));refine blk_far ?_ NB339_354.out _;(with_reducible repeat (first|refine blk_drewN ?_ _|refine blk_drew ?_|refine blk_alloc ?_ _));exact BK339.out) NB339_343.out (by simp));have n2_:=Aside0.mk (Kd.R_mono (Kd.R_keep (IsS142.apart (show IsS142 w _ g343 t340 t351 t352 from by repeat (first|(with_reducible first|exact HI343.out|apply IsS142.alloc|apply IsS142.drewN|apply IsS142.drew|apply IsS142.set_1|apply IsS142.set_2|refine IsS142.far ?_ NB343_338.out _|refine IsS142.far ?_ NB343_339.out _|refine IsS142.far ?_ NB343_353.out _|refine IsS142.far ?_ NB343_354.out _)|exact HI343.out)) (by (with_reducible repeat (first|apply Kd.R_alloc|apply Kd.R_drewN|apply Kd.R_drew));exact (Kd.R_mono (Kd.R_far (p:=⟨gb354,0,none⟩) (Kd.R_types HO346.out BK354.out (by decide)) (fun _ hk=>hk.2) (.slice none 0 0)) (fun _ h_=>h_.1))) (by decide)) hk (fun _ h=>h.2)) (fun _ h=>h.1));have n3_:=Aside0.mk (Kd.S_mono (Kd.S_keep (IsS142.apartS (show IsS142 w _ g343 t340 t351 t352 from by repeat (first|(with_reducible first|exact HI343.out|apply IsS142.alloc|apply IsS142.drewN|apply IsS142.drew|apply IsS142.set_1|apply IsS142.set_2|refine IsS142.far ?_ NB343_338.out _|refine IsS142.far ?_ NB343_339.out _|refine IsS142.far ?_ NB343_353.out _|refine IsS142.far ?_ NB343_354.out _)|exact HI343.out)) (by (with_reducible repeat (first|apply Kd.S_alloc|apply Kd.S_drewN|apply Kd.S_drew));exact (Kd.S_mono (Kd.S_far (p:=⟨gb354,0,none⟩) (Kd.S_mono HO350.out (fun k_ hk=>(⟨hk,hk.2⟩:_∧k_ ≠ gb354))) (fun _ hk=>hk.2) (.slice none 0 0)) (fun _ h_=>h_.1))) (by decide)) hk (fun _ h=>h.2)) (fun _ h=>h.1));have n4_:=Aside0.mk (KeepBut.blk hk (g':=gb353) (o:=.cells #[.int .i64 t347,.slice Ao14 t348.length co14] 43 (0,0)) (by (with_reducible repeat (first|refine blk_drewN ?_ _|refine blk_drew ?_|refine blk_alloc ?_ _));refine blk_far ?_ NB353_354.out _;(with_reducible repeat (first|refine blk_drewN ?_ _|refine blk_drew ?_|refine blk_alloc ?_ _));exact BK353.out) NB353_343.out (by simp));have n5_:=Aside0.mk (KeepBut.blk hk (g':=gb354) (o:=.cells #[.slice none 0 0] 29 (0,0)) (by (with_reducible repeat (first|refine blk_drewN ?_ _|refine blk_drew ?_|refine blk_alloc ?_ _));refine blk_put (cs:=#[.slice none 0 0]) ?_ 0 _ rfl;(with_reducible repeat (first|refine blk_drewN ?_ _|refine blk_drew ?_|refine blk_alloc ?_ _));exact BK354.out) NB354_343.out (by simp));have n6_:=Aside0.mk (hb);have n7_:=Aside0.mk (hi);clear BK338;clear BK339;clear HO346;clear HO350;clear BK353;clear BK354;clear HB;clear HI343;have BK338:=n0_;have BK339:=n1_;have HO346:=n2_;have HO350:=n3_;have BK353:=n4_;have BK354:=n5_;have HB:=n6_;have HI343:=n7_;clear n0_ n1_ n2_ n3_ n4_ n5_ n6_ n7_;(try clear hb);(try clear hb2);(try clear hk);(try clear hi)))
 go_loopg [9] k (fun kq v9 w'=>∃ (x9_1:Int) (x344001_1:Int) (x344002_1:Int) (x355000_1:List Int) (u355000:Value),v9 = .int .i64 x9_1∧Aside0 (spec_DrawBest.l0 kq t344 x9_1 t340 x344001_1 x344002_1 t347 t348 x355000_1=some (r1,r2,r3,r4))∧Aside0 (kq≤k)∧Aside0 (Kd.R k76 76 w' w.heap.size (fun _=>True) v345 t344)∧Aside0 (Kd.S k29 29 w' w.heap.size (fun k_=>some k_ ≠ (u355000:Value).ownBlock∧k_ ≠ gb339∧k_ ≠ gb354) (.slice Ao14 t348.length co14) t348)∧Aside0 (Kd.R (Kd.int .i64) 3 w' w.heap.size (fun _=>True) u355000 x355000_1)∧Aside0 (w'.heap[gb338]?=some (.cells #[.int .i64 0,(.slice none 0 0)] 43 (0,0)))∧Aside0 (w'.heap[gb339]?=some (.cells #[(.slice none 0 0)] 29 (0,0)))∧Aside0 (w'.heap[gb353]?=some (.cells #[.int .i64 t347,(.slice Ao14 t348.length co14)] 43 (0,0)))∧Aside0 (w'.heap[gb354]?=some (.cells #[u355000] 29 (0,0)))∧Aside0 (IsS142 w w' g343 t340 x344001_1 x344002_1)∧Aside0 (Below w.heap.size w w'))
 case atStart=>exact ⟨(t355),(t356),(t357),(([]:List Int)),(.slice none 0 0),rd_,H',⟨Nat.le_refl _⟩,⟨rR HO346⟩,⟨by (with_reducible repeat (first|apply Kd.S_alloc|apply Kd.S_drewN|apply Kd.S_drew));exact Kd.S_mono HO350.out (fun _ hk=>⟨(by simp [Value.ownBlock]),⟨hk.1.2,hk.2⟩⟩)⟩,⟨by first|exact Kd.R_nil _ _ _ _ _|exact Kd.N_nil _ _ _ _ _|exact Kd.V_nil _ _ _ _ _|exact Kd.Q_nil _ _ _ _ _|exact Kd.S_nil _ _ _ _ _⟩,⟨bk BK338⟩,⟨bk BK339⟩,⟨bk BK353⟩,⟨bk BK354⟩,⟨by repeat (first|(with_reducible first|exact HI343.out|apply IsS142.alloc|apply IsS142.drewN|apply IsS142.drew|apply IsS142.set_1|apply IsS142.set_2|refine IsS142.far ?_ NB343_338.out _|refine IsS142.far ?_ NB343_339.out _|refine IsS142.far ?_ NB343_353.out _|refine IsS142.far ?_ NB343_354.out _)|exact HI343.out)⟩,⟨by repeat (first|(with_reducible first|exact HB.out|apply below_alloc|apply pw_below_drewN|apply below_drew1|refine below_set ?_ (IsS142.ge HI343.out)|refine below_set ?_ GE338.out|refine below_set ?_ GE339.out|refine below_set ?_ GE353.out|refine below_set ?_ GE354.out)|exact HB.out)⟩⟩
 case round=>
  clear H'
  try clear c1
  try clear p2
  try clear c4
  try clear c10
  try clear c11
  try clear c12
  try clear c16
  try clear c17
  try clear c18
  try clear c19
  try clear hcz13_0
  try clear hcz13_1
  try clear hcz20_0
  try clear hfz13_0
  try clear hfz13_1
  try clear hfz20_0
  obtain ⟨x9_1,x344001_1,x344002_1,x355000_1,u355000,rfl,HA,HK1,HO_6,HO_354001,HO_355000,BK338,BK339,BK353,BK354,HI343,HB⟩:=hrel
  cases gk with
  | zero=>exact absurd HA.out (by simp [spec_DrawBest.l0])
  | succ k1=>
   have H:=HA.out
   clear HA
   simp only [spec_DrawBest.l0] at H
   by_cases c22:x9_1 > 0
   ·rw [if_pos c22] at H
    have c22b0:decide (0 < x9_1)=true:=decide_eq_true c22
    clear c22
    replace H:=Option.bind_eq_some_iff.mp H
    obtain ⟨⟨t358,t359,t360⟩,A230,H⟩:=H
    try dsimp only at H
    have A23:=Aside0.mk A230
    clear A230
    by_cases c24:x355000_1.length < 17592186044416
    ·rw [if_pos c24] at H
     have LMc24:=Aside0.mk c24
     clear c24
     obtain ⟨y361,hy361⟩ : ∃ y_:List Int,y_=(x355000_1 ++ [wrap64 (1+t358)]):=⟨_,rfl⟩
     replace H:(spec_DrawBest.l0 k1 t344 (wrap64 (x9_1 - 1)) t340 t359 t360 t347 t348 y361)=some (r1,r2,r3,r4):=by first|(rw [hy361];with_reducible exact H)|(have H2_:=(Option.bind_some _ _).symm.trans H;rw [hy361];with_reducible exact H2_)|(have H2_:=(Option.bind_some _ _).symm.trans H;with_reducible exact H2_)|with_reducible exact H|(rw [hy361];exact H)|exact H
     have Ny361:=Aside0.mk hy361
     clear hy361
     have H':=Aside0.mk H
     clear H
     try go_wp2
     have n0_:=Aside0.mk (Kd.R_drew HO_6.out);have n1_:=Aside0.mk (Kd.S_drew HO_354001.out);have n2_:=Aside0.mk (Kd.R_drew HO_355000.out);have n3_:=Aside0.mk (blk_drew BK338.out);have n4_:=Aside0.mk (blk_drew BK339.out);have n5_:=Aside0.mk (blk_drew BK353.out);have n6_:=Aside0.mk (blk_drew BK354.out);have n7_:=Aside0.mk (IsS142.drew HI343.out);have n8_:=Aside0.mk (below_drew1 HB.out);clear HO_6 HO_354001 HO_355000 BK338 BK339 BK353 BK354 HI343 HB;have HO_6:=n0_;have HO_354001:=n1_;have HO_355000:=n2_;have BK338:=n3_;have BK339:=n4_;have BK353:=n5_;have BK354:=n6_;have HI343:=n7_;have HB:=n8_;clear n0_ n1_ n2_ n3_ n4_ n5_ n6_ n7_ n8_
     refine start_ (n:=9) (S:=fun w'=>w'.cell? ⟨gb354,0,none⟩=some (u355000)) (ds:=[8]) (fl 9 0) (by kernel_rfl) rfl rfl ((blk_cell BK354.out 0).trans rfl) (fun hHeld=>?_);refine with_tabW spec_DrawBest.tab7 spec_DrawBest.bits7 (fun HT_ HW_=>?_)
     generalize wr.drew=w25 at HO_6 HO_354001 HO_355000 BK338 BK339 BK353 BK354 HI343 HB hHeld ⊢
     refine pt 0 24 (fl 9 1) HT_ ?_
     refine pt 2 26 (fl 9 5) HT_ ?_
     refine tt 1 25 (fl 9 7) HT_ HW_ hHeld ?_
     refine ot 3 (some 27) (fl 9 15) HT_ (fun K hK=>?_)
     refine goes_ Try.func105 (by kernel_rfl) rfl #[.pointer (some ⟨g343,0,none⟩),.int .i64 7] (by rfl) rfl rfl (by (try simp only [List.map_toArray,List.map_cons,List.map_nil]);first|done|rfl|(simp only [List.length_drop,List.length_take];rfl)) ?_
     with_reducible refine (spec_l1Below.calls g343 t340 x344001_1 x344002_1 7 t358 t359 t360 w _ ?side1 ?side2 A23.out).mono ?_
     (case side1=>repeat (first|(with_reducible first|exact HI343.out|apply IsS142.alloc|apply IsS142.drewN|apply IsS142.drew|apply IsS142.set_1|apply IsS142.set_2|refine IsS142.far ?_ NB343_338.out _|refine IsS142.far ?_ NB343_339.out _|refine IsS142.far ?_ NB343_353.out _|refine IsS142.far ?_ NB343_354.out _)|exact HI343.out))
     (case side2=>repeat (first|(with_reducible first|exact HB.out|apply below_alloc|apply pw_below_drewN|apply below_drew1|refine below_set ?_ (IsS142.ge HI343.out)|refine below_set ?_ GE338.out|refine below_set ?_ GE339.out|refine below_set ?_ GE353.out|refine below_set ?_ GE354.out)|exact HB.out))
     rintro e w26 ⟨rfl,hi,hb,hk⟩
     refine ⟨_,rfl,?_⟩
     have n0_:=Aside0.mk (Kd.R_mono (Kd.R_keep (IsS142.apart (show IsS142 w _ g343 t340 x344001_1 x344002_1 from by repeat (first|(with_reducible first|exact HI343.out|apply IsS142.alloc|apply IsS142.drewN|apply IsS142.drew|apply IsS142.set_1|apply IsS142.set_2|refine IsS142.far ?_ NB343_338.out _|refine IsS142.far ?_ NB343_339.out _|refine IsS142.far ?_ NB343_353.out _|refine IsS142.far ?_ NB343_354.out _)|exact HI343.out)) (rR HO_6) (by decide)) hk (fun _ h=>h.2)) (fun _ h=>h.1));have n1_:=Aside0.mk (Kd.S_mono (Kd.S_keep (IsS142.apartS (show IsS142 w _ g343 t340 x344001_1 x344002_1 from by repeat (first|(with_reducible first|exact HI343.out|apply IsS142.alloc|apply IsS142.drewN|apply IsS142.drew|apply IsS142.set_1|apply IsS142.set_2|refine IsS142.far ?_ NB343_338.out _|refine IsS142.far ?_ NB343_339.out _|refine IsS142.far ?_ NB343_353.out _|refine IsS142.far ?_ NB343_354.out _)|exact HI343.out)) (rS HO_354001) (by decide)) hk (fun _ h=>h.2)) (fun _ h=>h.1));have n2_:=Aside0.mk (Kd.R_mono (Kd.R_keep (IsS142.apart (show IsS142 w _ g343 t340 x344001_1 x344002_1 from by repeat (first|(with_reducible first|exact HI343.out|apply IsS142.alloc|apply IsS142.drewN|apply IsS142.drew|apply IsS142.set_1|apply IsS142.set_2|refine IsS142.far ?_ NB343_338.out _|refine IsS142.far ?_ NB343_339.out _|refine IsS142.far ?_ NB343_353.out _|refine IsS142.far ?_ NB343_354.out _)|exact HI343.out)) (rR HO_355000) (by decide)) hk (fun _ h=>h.2)) (fun _ h=>h.1));have n3_:=Aside0.mk (KeepBut.blk hk (g':=gb338) (o:=.cells #[.int .i64 0,.slice none 0 0] 43 (0,0)) (bk BK338) NB338_343.out (by simp));have n4_:=Aside0.mk (KeepBut.blk hk (g':=gb339) (o:=.cells #[.slice none 0 0] 29 (0,0)) (bk BK339) NB339_343.out (by simp));have n5_:=Aside0.mk (KeepBut.blk hk (g':=gb353) (o:=.cells #[.int .i64 t347,.slice Ao14 t348.length co14] 43 (0,0)) (bk BK353) NB353_343.out (by simp));have n6_:=Aside0.mk (KeepBut.blk hk (g':=gb354) (o:=.cells #[u355000] 29 (0,0)) (bk BK354) NB354_343.out (by simp));have n7_:=Aside0.mk (hb);have n8_:=Aside0.mk (hi);clear HO_6 HO_354001 HO_355000 BK338 BK339 BK353 BK354 HB HI343;have HO_6:=n0_;have HO_354001:=n1_;have HO_355000:=n2_;have BK338:=n3_;have BK339:=n4_;have BK353:=n5_;have BK354:=n6_;have HB:=n7_;have HI343:=n8_;clear n0_ n1_ n2_ n3_ n4_ n5_ n6_ n7_ n8_;(try clear hb);(try clear hb2);(try clear hk);(try clear hi)
     refine hK.out _ _ ((blk_cell BK354.out 0).trans rfl) (fun hHeld=>?_)
     clear hK K
     refine no 27 ?_
     refine pt 4 28 (fl 9 31) HT_ ?_
     refine ot 5 (some 29) (fl 9 63) HT_ (fun K hK=>?_)
     refine value_ (w1:=?_) (v:=?_) (by rfl) rfl ?_ ?_
     rotate_left 2
     ·go_simp
      constructor
      ·rfl
      ·rfl
     refine hK.out _ _ ((blk_cell (blk_alloc BK354.out _) 0).trans rfl) (fun hHeld=>?_)
     clear hK K
     refine no 29 ?_
     refine ot 6 (some 30) (fl 9 127) HT_ (fun K hK=>?_)
     refine Kd.R_append_step (Kd.int .i64) (w0:=w) w.heap.size (by rfl) (.tmp 25) (.tmp 29) 22 3 (.int .i64 0) 8 rfl Try.underlying22 info3 rfl (by decide) (by omega) u355000 x355000_1 (wrap64 (1+t358)) [.int .i64 (wrap64 (1+t358))] (fun _=>True) (fun _=>False) rfl rfl ?aP (fun _ hk=>hk.elim) ?aF ?aO ?aB ?aS ?aL ?_
     (case aP=>exact rfl)
     (case aB=>exact (by repeat (first|(with_reducible first|exact HB.out|apply below_alloc|apply pw_below_drewN|apply below_drew1|refine below_set ?_ (IsS142.ge HI343.out)|refine below_set ?_ GE338.out|refine below_set ?_ GE339.out|refine below_set ?_ GE353.out|refine below_set ?_ GE354.out)|exact HB.out)))
     (case aF=>exact (fun _ _=>trivial))
     (case aO=>exact (rR HO_355000))
     (case aS=>exact (below_size (by repeat (first|(with_reducible first|exact HB.out|apply below_alloc|apply pw_below_drewN|apply below_drew1|refine below_set ?_ (IsS142.ge HI343.out)|refine below_set ?_ GE338.out|refine below_set ?_ GE339.out|refine below_set ?_ GE353.out|refine below_set ?_ GE354.out)|exact HB.out))))
     (case aL=>have:=LMc24.out;omega)
     intro v362 w27 ho hb hg hat
     rw [← Ny361.out] at ho
     have n0_:=Aside0.mk (Kd.R_over' (rR HO_6) (Kd.R_typed (rR HO_355000)) (by decide) hg);have n1_:=Aside0.mk (Kd.S_after (ok:=(fun k_=>k_ ≠ gb339∧k_ ≠ gb354)) (by (with_reducible repeat (first|apply Kd.S_alloc|apply Kd.S_drewN|apply Kd.S_drew));exact Kd.S_mono HO_354001.out (fun _ hk=>⟨⟨hk.2.1,hk.2.2⟩,hk.1⟩)) hg hat);have n2_:=Aside0.mk (blk_grown (g:=gb338) (o:=.cells #[.int .i64 0,.slice none 0 0] 43 (0,0)) (bk BK338) hg (Kd.R_ne HO_355000.out BK338.out (by decide)));have n3_:=Aside0.mk (blk_grown (g:=gb339) (o:=.cells #[.slice none 0 0] 29 (0,0)) (bk BK339) hg (Kd.R_ne HO_355000.out BK339.out (by decide)));have n4_:=Aside0.mk (blk_grown (g:=gb353) (o:=.cells #[.int .i64 t347,.slice Ao14 t348.length co14] 43 (0,0)) (bk BK353) hg (Kd.R_ne HO_355000.out BK353.out (by decide)));have n5_:=Aside0.mk (blk_grown (g:=gb354) (o:=.cells #[u355000] 29 (0,0)) (bk BK354) hg (Kd.R_ne HO_355000.out BK354.out (by decide)));have n6_:=Aside0.mk (IsS142.grown (by repeat (first|(with_reducible first|exact HI343.out|apply IsS142.alloc|apply IsS142.drewN|apply IsS142.drew|apply IsS142.set_1|apply IsS142.set_2|refine IsS142.far ?_ NB343_338.out _|refine IsS142.far ?_ NB343_339.out _|refine IsS142.far ?_ NB343_353.out _|refine IsS142.far ?_ NB343_354.out _)|exact HI343.out)) hg (IsS142.own_ne HI343.out HO_355000.out (by decide)));have n7_:=Aside0.mk (hb);have n8_:=Aside0.mk (ho);clear HO_6 HO_354001 BK338 BK339 BK353 BK354 HI343 HB HO_355000;have HO_6:=n0_;have HO_354001:=n1_;have BK338:=n2_;have BK339:=n3_;have BK353:=n4_;have BK354:=n5_;have HI343:=n6_;have HB:=n7_;have HO363:=n8_;clear n0_ n1_ n2_ n3_ n4_ n5_ n6_ n7_ n8_ ho hb hg hat
     obtain ⟨Ao28,co28,eo28⟩:=Kd.R_slice HO363.out
     (first|subst eo28|(injection eo28 with f1_ f2_ f3_;have f4_:=f1_.symm;have f5_:=f3_.symm;clear f1_ f2_ f3_;subst f4_;subst f5_))
     refine hK.out _ _ ((blk_cell BK354.out 0).trans rfl) (fun hHeld=>?_)
     clear hK K
     refine no 30 ?_
     refine pt 7 31 (fl 9 255) HT_ ?_
     refine last_ (i:=8) (N:=none) (fl 9 511) rfl rfl (one_of HT_.out (by kernel_rfl)) (by decide) (fun K hK=>?_)
     have hs29:w27.cell? ⟨gb354,0,none⟩=some (u355000):=(blk_cell BK354.out 0).trans rfl
     have hfs29:=blk_frozen BK354.out 0
     have hns29_0:=NB338_354.out
     have hns29_1:=NB339_354.out
     have hns29_2:=NB353_354.out
     have hms29_0:=NB354_338.out
     have hms29_1:=NB354_339.out
     have hms29_2:=NB354_353.out
     refine skip_ (w1:=?_) (by rfl) rfl ?_ ?_
     rotate_left
     ·go_simp
      rfl
     refine hK.out _ _ ?_
     clear hK K
     refine done_ (done_of HT_.out (by kernel_rfl)) ?_
     try go_wp2
     go_roundg k1
     case measure=>have:=HK1.out;omega
     case rel=>exact ⟨(wrap64 (x9_1 - 1)),(t359),(t360),(y361),(.slice Ao28 y361.length co28),rd_,H',⟨by have:=HK1.out;omega⟩,⟨by (with_reducible repeat (first|apply Kd.R_alloc|apply Kd.R_drewN|apply Kd.R_drew));exact Kd.R_mono (Kd.R_far (p:=⟨gb354,0,none⟩) (Kd.R_types HO_6.out BK354.out (by decide)) (fun _ hk=>hk.2) (.slice Ao28 y361.length co28)) (fun _ hk=>trivial)⟩,⟨by (with_reducible repeat (first|apply Kd.S_alloc|apply Kd.S_drewN|apply Kd.S_drew));exact Kd.S_mono (Kd.S_far (p:=⟨gb354,0,none⟩) (Kd.S_mono HO_354001.out (fun k_ hk=>(⟨hk,hk.1.2⟩:_∧k_ ≠ gb354))) (fun _ hk=>hk.2) (.slice Ao28 y361.length co28)) (fun _ hk=>⟨hk.1.2,⟨hk.1.1.1,hk.1.1.2⟩⟩)⟩,⟨by (with_reducible repeat (first|apply Kd.R_alloc|apply Kd.R_drewN|apply Kd.R_drew));exact Kd.R_mono (Kd.R_far (p:=⟨gb354,0,none⟩) (Kd.R_types HO363.out BK354.out (by decide)) (fun _ hk=>hk.2) (.slice Ao28 y361.length co28)) (fun _ hk=>trivial)⟩,⟨by (with_reducible repeat (first|refine blk_drewN ?_ _|refine blk_drew ?_|refine blk_alloc ?_ _));refine blk_far ?_ NB338_354.out _;(with_reducible repeat (first|refine blk_drewN ?_ _|refine blk_drew ?_|refine blk_alloc ?_ _));exact BK338.out⟩,⟨by (with_reducible repeat (first|refine blk_drewN ?_ _|refine blk_drew ?_|refine blk_alloc ?_ _));refine blk_far ?_ NB339_354.out _;(with_reducible repeat (first|refine blk_drewN ?_ _|refine blk_drew ?_|refine blk_alloc ?_ _));exact BK339.out⟩,⟨by (with_reducible repeat (first|refine blk_drewN ?_ _|refine blk_drew ?_|refine blk_alloc ?_ _));refine blk_far ?_ NB353_354.out _;(with_reducible repeat (first|refine blk_drewN ?_ _|refine blk_drew ?_|refine blk_alloc ?_ _));exact BK353.out⟩,⟨by (with_reducible repeat (first|refine blk_drewN ?_ _|refine blk_drew ?_|refine blk_alloc ?_ _));refine blk_put (cs:=#[u355000]) ?_ 0 _ rfl;(with_reducible repeat (first|refine blk_drewN ?_ _|refine blk_drew ?_|refine blk_alloc ?_ _));exact BK354.out⟩,⟨by repeat (first|(with_reducible first|exact HI343.out|apply IsS142.alloc|apply IsS142.drewN|apply IsS142.drew|apply IsS142.set_1|apply IsS142.set_2|refine IsS142.far ?_ NB343_338.out _|refine IsS142.far ?_ NB343_339.out _|refine IsS142.far ?_ NB343_353.out _|refine IsS142.far ?_ NB343_354.out _)|exact HI343.out)⟩,⟨by repeat (first|(with_reducible first|exact HB.out|apply below_alloc|apply pw_below_drewN|apply below_drew1|refine below_set ?_ (IsS142.ge HI343.out)|refine below_set ?_ GE338.out|refine below_set ?_ GE339.out|refine below_set ?_ GE353.out|refine below_set ?_ GE354.out)|exact HB.out)⟩⟩
    ·rw [if_neg c24] at H
     exact absurd H (by simp)
   ·rw [if_neg c22] at H
    have c22b0:decide (0 < x9_1)=false:=decide_eq_false c22
    clear c22
    simp only [Option.some.injEq,Prod.mk.injEq] at H
    obtain ⟨rfl,rfl,rfl,rfl⟩:=H
    try go_wp2
    have n0_:=Aside0.mk (Kd.R_drew HO_6.out);have n1_:=Aside0.mk (Kd.S_drew HO_354001.out);have n2_:=Aside0.mk (Kd.R_drew HO_355000.out);have n3_:=Aside0.mk (blk_drew BK338.out);have n4_:=Aside0.mk (blk_drew BK339.out);have n5_:=Aside0.mk (blk_drew BK353.out);have n6_:=Aside0.mk (blk_drew BK354.out);have n7_:=Aside0.mk (IsS142.drew HI343.out);have n8_:=Aside0.mk (below_drew1 HB.out);clear HO_6 HO_354001 HO_355000 BK338 BK339 BK353 BK354 HI343 HB;have HO_6:=n0_;have HO_354001:=n1_;have HO_355000:=n2_;have BK338:=n3_;have BK339:=n4_;have BK353:=n5_;have BK354:=n6_;have HI343:=n7_;have HB:=n8_;clear n0_ n1_ n2_ n3_ n4_ n5_ n6_ n7_ n8_
    obtain ⟨Ao33,co33,eo33⟩:=Kd.R_slice HO_355000.out
    (first|subst eo33|(injection eo33 with f1_ f2_ f3_;have f4_:=f1_.symm;have f5_:=f3_.symm;clear f1_ f2_ f3_;subst f4_;subst f5_))
    refine start_ (n:=6) (S:=fun w'=>w'.cell? ⟨gb353,0,none⟩=some (.int .i64 t347)∧w'.cell? ⟨gb353,1,none⟩=some (.slice Ao14 t348.length co14)∧w'.cell? ⟨gb354,0,none⟩=some (.slice Ao33 x355000_1.length co33)) (ds:=[]) (fl 6 0) (by kernel_rfl) rfl rfl ⟨(blk_cell BK353.out 0).trans rfl,(blk_cell BK353.out 1).trans rfl,(blk_cell BK354.out 0).trans rfl⟩ (fun hHeld=>?_)
    generalize wr.drew=w30 at HO_6 HO_354001 HO_355000 BK338 BK339 BK353 BK354 HI343 HB hHeld ⊢
    refine pu 2 34 (fl 6 4) ?_
    refine ta 0 32 (fl 6 5) hHeld ?_
    refine ta 1 33 (fl 6 7) hHeld ?_
    refine on 3 none (fl 6 15) (fun K hK=>?_)
    have hs31:w30.cell? ⟨gb338,0,none⟩=some (.int .i64 0):=(blk_cell BK338.out 0).trans rfl
    have hfs31:=blk_frozen BK338.out 0
    have hns31_1:=NB339_338.out
    have hns31_2:=NB353_338.out
    have hns31_3:=NB354_338.out
    have hms31_1:=NB338_339.out
    have hms31_2:=NB338_353.out
    have hms31_3:=NB338_354.out
    have hs32:w30.cell? ⟨gb338,1,none⟩=some (.slice none 0 0):=(blk_cell BK338.out 1).trans rfl
    have hfs32:=blk_frozen BK338.out 1
    have hns32_1:=NB339_338.out
    have hns32_2:=NB353_338.out
    have hns32_3:=NB354_338.out
    have hms32_1:=NB338_339.out
    have hms32_2:=NB338_353.out
    have hms32_3:=NB338_354.out
    refine skip_ (w1:=?_) (by rfl) rfl ?_ ?_
    rotate_left
    ·go_simp
     rfl
    refine hK.out _ _ ⟨((cell_far (p:=⟨gb338,_,none⟩) NB353_338.out _).trans (((cell_far (p:=⟨gb338,_,none⟩) NB353_338.out _).trans (hHeld.1)))),((cell_far (p:=⟨gb338,_,none⟩) NB353_338.out _).trans (((cell_far (p:=⟨gb338,_,none⟩) NB353_338.out _).trans (hHeld.2.1)))),((cell_far (p:=⟨gb338,_,none⟩) NB354_338.out _).trans (((cell_far (p:=⟨gb338,_,none⟩) NB354_338.out _).trans (hHeld.2.2))))⟩ (fun hHeld=>?_)
    clear hK K
    refine on 4 none (fl 6 31) (fun K hK=>?_)
    have hs34:w30.cell? ⟨gb339,0,none⟩=some (.slice none 0 0):=(blk_cell BK339.out 0).trans rfl
    have hfs34:=blk_frozen BK339.out 0
    have hns34_0:=NB338_339.out
    have hns34_2:=NB353_339.out
    have hns34_3:=NB354_339.out
    have hms34_0:=NB339_338.out
    have hms34_2:=NB339_353.out
    have hms34_3:=NB339_354.out
    refine skip_ (w1:=?_) (by rfl) rfl ?_ ?_
    rotate_left
    ·go_simp
     rfl
    refine hK.out _ _ ⟨((cell_far (p:=⟨gb339,_,none⟩) NB353_339.out _).trans (hHeld.1)),((cell_far (p:=⟨gb339,_,none⟩) NB353_339.out _).trans (hHeld.2.1)),((cell_far (p:=⟨gb339,_,none⟩) NB354_339.out _).trans (hHeld.2.2))⟩ (fun hHeld=>?_)
    clear hK K
    refine pu 5 4 (fl 6 63) ?_
    refine done_ (by kernel_rfl) ?_
    try go_wp2
    refine bodyPost_ret (results_list (rs:=[.cell 2 43,.cell 3 29,.tmp 4]) rfl (by simp) (.cell gb338 43 #[.int .i64 t347,.slice Ao14 t348.length co14] (0,0) _ rfl (by (with_reducible repeat (first|refine blk_drewN ?_ _|refine blk_drew ?_|refine blk_alloc ?_ _));refine blk_far ?_ NB338_339.out _;(with_reducible repeat (first|refine blk_drewN ?_ _|refine blk_drew ?_|refine blk_alloc ?_ _));refine blk_put (cs:=#[.int .i64 t347,.slice none 0 0]) ?_ 1 _ rfl;(with_reducible repeat (first|refine blk_drewN ?_ _|refine blk_drew ?_|refine blk_alloc ?_ _));refine blk_put (cs:=#[.int .i64 0,.slice none 0 0]) ?_ 0 _ rfl;(with_reducible repeat (first|refine blk_drewN ?_ _|refine blk_drew ?_|refine blk_alloc ?_ _));exact BK338.out) Try.underlying43 rfl (by kernel_rfl) (.cell gb339 29 #[.slice Ao33 x355000_1.length co33] (0,0) _ rfl (by (with_reducible repeat (first|refine blk_drewN ?_ _|refine blk_drew ?_|refine blk_alloc ?_ _));refine blk_put (cs:=#[.slice none 0 0]) ?_ 0 _ rfl;(with_reducible repeat (first|refine blk_drewN ?_ _|refine blk_drew ?_|refine blk_alloc ?_ _));refine blk_far ?_ NB339_338.out _;(with_reducible repeat (first|refine blk_drewN ?_ _|refine blk_drew ?_|refine blk_alloc ?_ _));refine blk_far ?_ NB339_338.out _;(with_reducible repeat (first|refine blk_drewN ?_ _|refine blk_drew ?_|refine blk_alloc ?_ _));exact BK339.out) Try.underlying29 rfl (by kernel_rfl) (.tmp .nil)))) rfl ?_
    exact ⟨_,_,_,rz,by (with_reducible repeat (first|apply Kd.S_alloc|apply Kd.S_drewN|apply Kd.S_drew));exact Kd.S_mono (Kd.S_far (p:=⟨gb339,0,none⟩) (Kd.S_far (p:=⟨gb338,1,none⟩) (Kd.S_far (p:=⟨gb338,0,none⟩) (Kd.S_mono (Kd.S_types HO_354001.out BK338.out (by decide)) (fun k_ hk=>(⟨hk,hk.1.2.1⟩:_∧k_ ≠ gb339))) (fun _ hk=>hk.1.2) (.int .i64 t347)) (fun _ hk=>hk.1.2) (.slice Ao14 t348.length co14)) (fun _ hk=>hk.2) (.slice Ao33 x355000_1.length co33)) (fun _ hk=>hk.1.1.1),by (with_reducible repeat (first|apply Kd.R_alloc|apply Kd.R_drewN|apply Kd.R_drew));exact Kd.R_mono (Kd.R_far (p:=⟨gb339,0,none⟩) (Kd.R_far (p:=⟨gb338,1,none⟩) (Kd.R_far (p:=⟨gb338,0,none⟩) (Kd.R_types (Kd.R_types HO_355000.out BK338.out (by decide)) BK339.out (by decide)) (fun _ hk=>hk.1.2) (.int .i64 t347)) (fun _ hk=>hk.1.2) (.slice Ao14 t348.length co14)) (fun _ hk=>hk.2) (.slice Ao33 x355000_1.length co33)) (fun _ hk=>trivial),by (with_reducible repeat (first|apply Kd.R_alloc|apply Kd.R_drewN|apply Kd.R_drew));exact Kd.R_mono (Kd.R_far (p:=⟨gb339,0,none⟩) (Kd.R_far (p:=⟨gb338,1,none⟩) (Kd.R_far (p:=⟨gb338,0,none⟩) (Kd.R_types (Kd.R_types HO_6.out BK338.out (by decide)) BK339.out (by decide)) (fun _ hk=>hk.1.2) (.int .i64 t347)) (fun _ hk=>hk.1.2) (.slice Ao14 t348.length co14)) (fun _ hk=>hk.2) (.slice Ao33 x355000_1.length co33)) (fun _ hk=>trivial),by repeat (first|(with_reducible first|exact HB.out|apply below_alloc|apply pw_below_drewN|apply below_drew1|refine below_set ?_ (IsS142.ge HI343.out)|refine below_set ?_ GE338.out|refine below_set ?_ GE339.out|refine below_set ?_ GE353.out|refine below_set ?_ GE354.out)|exact HB.out)⟩
mutual
def impl_LoadOf.l0:Nat→Int→Int→List (S29)→Int→Int→Option (Int)
 | 0,_,_,_,_,_=>none
 | k+1,x1,x5,x11,x12,x13=>if x13 < x12 then (if 0≤x13 then (if x13 < (x11.length:Int) then (impl_LoadOf.l1 k x1 x5 x11 x12 x13 ((rd_T29 x11 x13).f0) (((rd_T29 x11 x13).f0).length:Int) 0) else (none)) else (none)) else (some x5)
def impl_LoadOf.l1:Nat→Int→Int→List (S29)→Int→Int→List Int→Int→Int→Option (Int)
 | 0,_,_,_,_,_,_,_,_=>none
 | k+1,x1,x5,x11,x12,x13,x18,x19,x20=>if x20 < x19 then (if 0≤x20 then (if x20 < (x18.length:Int) then (if (rd x18 x20)=x1 then (impl_LoadOf.l1 k x1 (wrap64 (x5+1)) x11 x12 x13 x18 x19 (wrap64 (x20+1))) else (impl_LoadOf.l1 k x1 x5 x11 x12 x13 x18 x19 (wrap64 (x20+1)))) else (none)) else (none)) else (impl_LoadOf.l0 k x1 x5 x11 x12 (wrap64 (x13+1)))
end
def impl_LoadOf.f (k:Nat) (a0_0:Int) (l0_1:List (S29)) (a1:Int):Option (Int):=impl_LoadOf.l0 k a1 0 l0_1 (l0_1.length:Int) 0
set_option maxHeartbeats 8000000 in
set_option maxRecDepth 100000 in
theorem impl_LoadOf.calls (k:Nat) (a0_0:Int) (A0_1:Option Addr) (c0_1:Nat) (l0_1:List (S29)) (a1:Int) (r:Int) (w:World) (hr0_1:Kd.C k29 w A0_1 l0_1.length l0_1) (hc0_1:l0_1.length≤c0_1) (h:impl_LoadOf.f k a0_0 l0_1 a1=some r) :
  Calls Try.prog 52 #[.agg #[.int .i64 a0_0,.slice A0_1 l0_1.length c0_1],.int .i64 a1] w fun e w'=>e = .returned (.int .i64 r)∧Below w.heap.size w w':=by
 have hu43:=Try.underlying43
 have hu29:=Try.underlying29
 have HR0_1:=Aside0.mk hr0_1
 have HC0_1:=Aside0.mk hc0_1
 clear hr0_1 hc0_1
 have HB:=Aside0.mk (Below.refl w.heap.size w)
 have H:(impl_LoadOf.l0 k a1 0 l0_1 (l0_1.length:Int) 0)=some r:=h
 clear h
 have H':=Aside0.mk H
 clear H
 go_enter Try.func52,Try.ntmps52
 go_wp2_with (first|((with_reducible refine gate_dst (N:=2) rfl ?_);refine box_event ?hg (N:=2) ?hd (cs:=#[.int .i64 a0_0,.slice A0_1 l0_1.length c0_1]) (t:=43) ?hr ?_;(case hd=>rfl);(case hg=>rfl);(case hr=>first|(go_simp;done)|(go_simp;rfl));intro gb364 hg w3 hbox hb;have n0_:=bs hb;have n1_:=Aside0.mk (hbox);have n2_:=Aside0.mk ((by rw [hg];exact (below_size be):w.heap.size≤gb364));have n3_:=Aside0.mk ((by rw [hg];exact (below_size be):w.heap.size≤gb364));clear HB;have HB:=n0_;have BK364:=n1_;have GW364:=n2_;have GE364:=n3_;clear n0_ n1_ n2_ n3_;clear hb hbox hg;have hcz4_0:w3.cell? ⟨gb364,0,none⟩=some (.int .i64 a0_0):=(blk_cell BK364.out 0).trans rfl;have hcz4_1:w3.cell? ⟨gb364,1,none⟩=some (.slice A0_1 l0_1.length c0_1):=(blk_cell BK364.out 1).trans rfl;have hfz4_0:=blk_frozen BK364.out 0;have hfz4_1:=blk_frozen BK364.out 1))
 go_loopg [5,13] k (fun kq v5 v13 w'=>∃ (x5_1:Int) (x13_1:Int),v5 = .int .i64 x5_1∧v13 = .int .i64 x13_1∧Aside0 (impl_LoadOf.l0 kq a1 x5_1 l0_1 (l0_1.length:Int) x13_1=some r)∧Aside0 (kq≤k)∧Aside0 (w'.heap[gb364]?=some (.cells #[.int .i64 a0_0,(.slice A0_1 l0_1.length c0_1)] 43 (0,0)))∧Aside0 (Below w.heap.size w w'))
 case atStart=>exact ⟨(0),(0),rd_,rd_,H',⟨Nat.le_refl _⟩,⟨bk BK364⟩,⟨be⟩⟩
 case round=>
  clear H'
  try clear p2
  try clear hcz4_0
  try clear hcz4_1
  try clear hfz4_0
  try clear hfz4_1
  obtain ⟨x5_1,x13_1,rfl,rfl,HA,HK1,BK364,HB⟩:=hrel
  cases gk with
  | zero=>exact absurd HA.out (by simp [impl_LoadOf.l0])
  | succ k1=>
   have H:=HA.out
   clear HA
   simp only [impl_LoadOf.l0] at H
   by_cases c5:x13_1 < (l0_1.length:Int)
   ·rw [if_pos c5] at H
    have c5b0:decide (x13_1 < (l0_1.length:Int))=true:=decide_eq_true c5
    clear c5
    by_cases c6:0≤x13_1
    ·rw [if_pos c6] at H
     have c6b0:decide (0≤x13_1)=true:=decide_eq_true c6
     clear c6
     by_cases c7:x13_1 < (l0_1.length:Int)
     ·rw [if_pos c7] at H
      have c7b0:decide (x13_1 < (l0_1.length:Int))=true:=decide_eq_true c7
      clear c7
      have H':=Aside0.mk H
      clear H
      have p365:0≤(x13_1:Int):=of_decide_eq_true (by first|(with_reducible assumption)|assumption)
      have q365:x13_1 < (l0_1.length:Int):=of_decide_eq_true (by first|(with_reducible assumption)|assumption)
      obtain ⟨ad365,A365_0,c365_0,e365,hx365_0,hl365_0,hi365_0⟩:=at_T29 HR0_1.out x13_1 p365 q365
      cases e365
      replace hx365_0:=(HB.out.cell (World.block_lt_of_cell? w _ hx365_0)).trans hx365_0
      have HR365_0:=Aside0.mk hi365_0
      have HC365_0:=Aside0.mk hl365_0
      clear hi365_0 hl365_0
      replace p365:=eq_true p365
      replace q365:=eq_true q365
      go_wp2_with (first|((with_reducible refine gate_dst (N:=7) rfl ?_);refine box_event ?hg (N:=7) ?hd (cs:=#[.slice none 0 0]) (t:=29) ?hr ?_;(case hd=>rfl);(case hg=>rfl);(case hr=>first|(go_simp;done)|(go_simp;rfl));intro gb366 hg w8 hbox hb;have n0_:=Aside0.mk (blk_below (g:=gb364) (o:=.cells #[.int .i64 a0_0,.slice (some ad365) l0_1.length c0_1] 43 (0,0)) (bk BK364) hb);have n1_:=bs hb;have n2_:=Aside0.mk (hbox);have n3_:=Aside0.mk ((by rw [hg];exact (below_size be):w.heap.size≤gb366));have n4_:=Aside0.mk ((by rw [hg];exact (below_size be):w.heap.size≤gb366));have n5_:=Aside0.mk ((by rw [hg];exact Nat.ne_of_lt (blk_lt (g:=gb364) (o:=.cells #[.int .i64 a0_0,.slice (some ad365) l0_1.length c0_1] 43 (0,0)) (bk BK364)):gb364 ≠ gb366));have n6_:=Aside0.mk ((by rw [hg];exact Nat.ne_of_gt (blk_lt (g:=gb364) (o:=.cells #[.int .i64 a0_0,.slice (some ad365) l0_1.length c0_1] 43 (0,0)) (bk BK364)):gb366 ≠ gb364));clear BK364;clear HB;have BK364:=n0_;have HB:=n1_;have BK366:=n2_;have GW366:=n3_;have GE366:=n4_;have NB364_366:=n5_;have NB366_364:=n6_;clear n0_ n1_ n2_ n3_ n4_ n5_ n6_;clear hb hbox hg;have hnb9:=NB366_364.out;have hnc9:=NB364_366.out;have hcz10_0:w8.cell? ⟨gb366,0,none⟩=some (.slice none 0 0):=(blk_cell BK366.out 0).trans rfl;have hfz10_0:=blk_frozen BK366.out 0))
      go_loopg [5,20] k1 (fun kq v5 v20 w'=>∃ (x5_2:Int) (x20_2:Int),v5 = .int .i64 x5_2∧v20 = .int .i64 x20_2∧Aside0 (impl_LoadOf.l1 kq a1 x5_2 l0_1 (l0_1.length:Int) x13_1 ((rd_T29 l0_1 x13_1).f0) (((rd_T29 l0_1 x13_1).f0).length:Int) x20_2=some r)∧Aside0 (kq≤k1)∧Aside0 (w'.heap[gb364]?=some (.cells #[.int .i64 a0_0,(.slice (some ad365) l0_1.length c0_1)] 43 (0,0)))∧Aside0 (w'.heap[gb366]?=some (.cells #[(.slice A365_0 ((rd_T29 l0_1 x13_1).f0).length c365_0)] 29 (0,0)))∧Aside0 (Below w.heap.size w w'))
      case atStart=>exact ⟨(x5_1),(0),rd_,rd_,H',⟨Nat.le_refl _⟩,⟨by (with_reducible repeat (first|refine blk_drewN ?_ _|refine blk_drew ?_|refine blk_alloc ?_ _));refine blk_far ?_ NB364_366.out _;(with_reducible repeat (first|refine blk_drewN ?_ _|refine blk_drew ?_|refine blk_alloc ?_ _));exact BK364.out⟩,⟨by (with_reducible repeat (first|refine blk_drewN ?_ _|refine blk_drew ?_|refine blk_alloc ?_ _));refine blk_put (cs:=#[.slice none 0 0]) ?_ 0 _ rfl;(with_reducible repeat (first|refine blk_drewN ?_ _|refine blk_drew ?_|refine blk_alloc ?_ _));exact BK366.out⟩,⟨be⟩⟩
      case round=>
       clear H'
       try clear p2
       try clear c3
       try clear p3
       try clear q3
       try clear hx3
       try clear c5
       try clear c5b0
       try clear c6
       try clear c6b0
       try clear c7
       try clear c7b0
       try clear c9
       try clear hcz10_0
       try clear hcz4_0
       try clear hcz4_1
       try clear hfz10_0
       try clear hfz4_0
       try clear hfz4_1
       try clear hx365_0
       try clear p2
       try clear p365
       try clear q365
       obtain ⟨x5_2,x20_2,rfl,rfl,HA,HK2,BK364,BK366,HB⟩:=hrel
       cases gk with
       | zero=>exact absurd HA.out (by simp [impl_LoadOf.l1])
       | succ k2=>
        have H:=HA.out
        clear HA
        simp only [impl_LoadOf.l1] at H
        by_cases c11:x20_2 < (((rd_T29 l0_1 x13_1).f0).length:Int)
        ·rw [if_pos c11] at H
         have c11b0:decide (x20_2 < (((rd_T29 l0_1 x13_1).f0).length:Int))=true:=decide_eq_true c11
         clear c11
         by_cases c12:0≤x20_2
         ·rw [if_pos c12] at H
          have c12b0:decide (0≤x20_2)=true:=decide_eq_true c12
          clear c12
          by_cases c13:x20_2 < (((rd_T29 l0_1 x13_1).f0).length:Int)
          ·rw [if_pos c13] at H
           have c13b0:decide (x20_2 < (((rd_T29 l0_1 x13_1).f0).length:Int))=true:=decide_eq_true c13
           clear c13
           by_cases c14:(rd ((rd_T29 l0_1 x13_1).f0) x20_2)=a1
           ·rw [if_pos c14] at H
            have c14b0:((rd ((rd_T29 l0_1 x13_1).f0) x20_2) == a1)=true:=beq_iff_eq.mpr c14
            have c14b1:((rd ((rd_T29 l0_1 x13_1).f0) x20_2) != a1)=false:=bne_eq_false_iff_eq.mpr c14
            clear c14
            have H':=Aside0.mk H
            clear H
            have p367:0≤(x20_2:Int):=of_decide_eq_true (by first|(with_reducible assumption)|assumption)
            have q367:x20_2 < (((rd_T29 l0_1 x13_1).f0).length:Int):=of_decide_eq_true (by first|(with_reducible assumption)|assumption)
            obtain ⟨ad367,e367,hx367_0⟩:=Kd.at_int HR365_0.out x20_2 p367 q367
            cases e367
            replace hx367_0:=(HB.out.cell (World.block_lt_of_cell? w _ hx367_0)).trans hx367_0
            replace p367:=eq_true p367
            replace q367:=eq_true q367
            go_wp2
            go_roundg k2
            case measure=>have:=HK1.out;have:=HK2.out;omega
            case rel=>exact ⟨(wrap64 (x5_2+1)),(wrap64 (x20_2+1)),rd_,rd_,H',⟨by have:=HK1.out;have:=HK2.out;omega⟩,⟨bk BK364⟩,⟨bk BK366⟩,⟨be⟩⟩
           ·rw [if_neg c14] at H
            have c14b0:((rd ((rd_T29 l0_1 x13_1).f0) x20_2) == a1)=false:=beq_eq_false_iff_ne.mpr c14
            have c14b1:((rd ((rd_T29 l0_1 x13_1).f0) x20_2) != a1)=true:=bne_iff_ne.mpr c14
            have H':=Aside0.mk H
            clear H
            have p367:0≤(x20_2:Int):=of_decide_eq_true (by first|(with_reducible assumption)|assumption)
            have q367:x20_2 < (((rd_T29 l0_1 x13_1).f0).length:Int):=of_decide_eq_true (by first|(with_reducible assumption)|assumption)
            obtain ⟨ad367,e367,hx367_0⟩:=Kd.at_int HR365_0.out x20_2 p367 q367
            cases e367
            replace hx367_0:=(HB.out.cell (World.block_lt_of_cell? w _ hx367_0)).trans hx367_0
            replace p367:=eq_true p367
            replace q367:=eq_true q367
            go_wp2
            go_roundg k2
            case measure=>have:=HK1.out;have:=HK2.out;omega
            case rel=>exact ⟨(x5_2),(wrap64 (x20_2+1)),rd_,rd_,H',⟨by have:=HK1.out;have:=HK2.out;omega⟩,⟨bk BK364⟩,⟨bk BK366⟩,⟨be⟩⟩
          ·rw [if_neg c13] at H
           exact absurd H (by simp)
         ·rw [if_neg c12] at H
          exact absurd H (by simp)
        ·rw [if_neg c11] at H
         have c11b0:decide (x20_2 < (((rd_T29 l0_1 x13_1).f0).length:Int))=false:=decide_eq_false c11
         clear c11
         have H':=Aside0.mk H
         clear H
         go_wp2
         go_roundg k2
         case measure=>have:=HK1.out;have:=HK2.out;omega
         case rel=>exact ⟨(x5_2),(wrap64 (x13_1+1)),rd_,rd_,H',⟨by have:=HK1.out;have:=HK2.out;omega⟩,⟨bk BK364⟩,⟨be⟩⟩
     ·rw [if_neg c7] at H
      exact absurd H (by simp)
    ·rw [if_neg c6] at H
     exact absurd H (by simp)
   ·rw [if_neg c5] at H
    have c5b0:decide (x13_1 < (l0_1.length:Int))=false:=decide_eq_false c5
    clear c5
    obtain rfl:=Option.some.inj H
    go_wp2
    go_ret
    exact ⟨rz,be⟩
def impl_in.f (a0:Int) (a1:Int) (a2:Int):Option (Bool):=if a0 ≥ a1 then (some (decide (a0≤a2))) else (some false)
set_option maxHeartbeats 8000000 in
set_option maxRecDepth 100000 in
theorem impl_in.calls (a0:Int) (a1:Int) (a2:Int) (r:Bool) (w:World) (h:impl_in.f a0 a1 a2=some r) :
  Calls Try.prog 101 #[.int .i64 a0,.int .i64 a1,.int .i64 a2] w fun e w'=>e = .returned (.bool r)∧Drawn0 w w':=by
 have H:(if a0 ≥ a1 then (some (decide (a0≤a2))) else (some false))=some r:=h
 clear h
 by_cases c4:a0 ≥ a1
 ·rw [if_pos c4] at H
  have c4b0:decide (a1≤a0)=true:=decide_eq_true c4
  clear c4
  obtain rfl:=Option.some.inj H
  go_enter Try.func101,Try.ntmps101
  go_wp2
  go_ret
  exact ⟨by first|rfl|(simp;done)|(simp [*];done),by repeat (first|exact Drawn0.refl _|apply Drawn0.step)⟩
 ·rw [if_neg c4] at H
  have c4b0:decide (a1≤a0)=false:=decide_eq_false c4
  clear c4
  obtain rfl:=Option.some.inj H
  go_enter Try.func101,Try.ntmps101
  go_wp2
  go_ret
  exact ⟨by first|rfl|(simp;done)|(simp [*];done),by repeat (first|exact Drawn0.refl _|apply Drawn0.step)⟩
end Go.Proofs.Ytbhllgifciaepaa.PFnBest
