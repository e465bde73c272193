/- Trimmed by a program of this session (trim.py). Not trusted: Lean checks it. -/
import Derived.Test.YtbhllgifciaepaaTLPlacesPFnPlacesx0
import Derived.Test.YtbhllgifciaepaaTLPlacesPFnPlacesx1
import Derived.Test.YtbhllgifciaepaaTLPlacesPFnPlacesx2
import Derived.Test.YtbhllgifciaepaaTLPlacesPFnPlacesx5
import Derived.Test.YtbhllgifciaepaaTLPlacesPFnPlacesx6
import Derived.Test.YtbhllgifciaepaaTLPlacesPFnPlacesx7
import Derived.Test.YtbhllgifciaepaaTLPlacesPFnPlacesx12
namespace Go.Proofs.Ytbhllgifciaepaa.PFnPlaces
open Go.RowKit Go.Proofs.YtbhllgifciaepaaW.PrintWords Go.Proofs.YtbhllgifciaepaaW.PrintLast Go.Proofs.YtbhllgifciaepaaW.PrintMore
attribute [local go_sem] max2_int min2_int max_two min_two max_three min_three max_four min_four
set_option linter.unusedVariables false
set_option linter.unusedSimpArgs false
mutual
def laws_FnPlaces.j0:Nat→List (S76)→ByteArray→List Int→List Int→Bool→Int→List (S29)→Option (Bool)
 | 0,_,_,_,_,_,_,_=>none
 | k+1,x4,x5,x6,x7,x40,x472000,x472001=>if x40=true then (some false) else (laws_FnPlaces.l0 k x4 x5 x6 x7 0 x472000 x472001)
def laws_FnPlaces.l0:Nat→List (S76)→ByteArray→List Int→List Int→Int→Int→List (S29)→Option (Bool)
 | 0,_,_,_,_,_,_,_=>none
 | k+1,x4,x5,x6,x7,x8,x472000,x472001=>if x8 < (x4.length:Int) then (if 0≤x8 then ((laws_has.f k x6 ((rd_T76 x4 x8).f0)).bind fun t486=>((laws_has.f k x7 ((rd_T76 x4 x8).f0)).bind fun t488=>(if (t486 == t488)=true then (some false) else ((laws_has.f k x6 ((rd_T76 x4 x8).f0)).bind fun t490=>((impl_IsPrimary.f k x472000 x472001 x5 ((rd_T76 x4 x8).f0)).bind fun t492=>(if (t490 != t492)=true then (some false) else (laws_FnPlaces.l0 k x4 x5 x6 x7 (wrap64 (x8+1)) x472000 x472001))))))) else (none)) else ((spec_RingOk.f k x472000 x472001 x4).bind fun t484=>(if t484=true then (if (wrap64 ((x6.length:Int)+(x7.length:Int)))=(x4.length:Int) then (some ((x6.length:Int) == x472000)) else (some false)) else (some true)))
end
def laws_FnPlaces.f (k:Nat) (l0:List Int):Option (Bool):=(laws_big.f l0).bind fun t462=>(if t462=true then (some true) else ((spec_DrawHandoffs.f k l0).bind fun bt463=>((impl_Primaries.f k bt463.1 bt463.2.1 bt463.2.2.2).bind fun t472=>((impl_Handoffs.f k bt463.1 bt463.2.1 bt463.2.2.1 bt463.2.2.2).bind fun t475=>((spec_Primaries.f k bt463.1 bt463.2.1 bt463.2.2.2).bind fun t478=>(if (t472.length:Int)=(t478.length:Int) then ((spec_Handoffs.f k bt463.1 bt463.2.1 bt463.2.2.1 bt463.2.2.2).bind fun t481=>(laws_FnPlaces.j0 k bt463.2.2.1 bt463.2.2.2 t472 t475 ((t475.length:Int) != (t481.length:Int)) bt463.1 bt463.2.1)) else (laws_FnPlaces.j0 k bt463.2.2.1 bt463.2.2.2 t472 t475 true bt463.1 bt463.2.1)))))))
def laws_FnPlaces.T11:Bool × List (List Nat × List Nat):=(true,[([],[]),([],[]),([],[]),([1,2],[1,2]),([3],[3]),([4],[4]),([0,5],[0,5]),([],[]),([],[]),([],[]),([8,9],[8,9]),([10],[10]),([11],[11]),([7,12,6],[7,12]),([6,13],[6,13]),([14,13],[14]),([15],[15]),([15],[15]),([15],[15]),([17,18,15],[15,17,18]),([19,15],[15,19]),([20,15],[15,20]),([16,21,15,15],[15,16,21]),([15],[15]),([15],[15]),([15],[15]),([15],[15]),([25,26,15],[15,25,26]),([27,15],[15,27]),([28,15],[15,28]),([23,24,29,22,15],[15,23,24,29]),([22,30,15],[15,22,30]),([15,31],[15,31])])
def laws_FnPlaces.B11:List Nat:=[0,0,0,6,14,30,63,0,0,0,768,1792,3840,8191,16383,32767,65535,65535,65535,458751,983039,2031615,4194303,65535,65535,65535,65535,100728831,234946559,503382015,1073741823,2147483647,4294967295]
theorem laws_FnPlaces.tab11:rtab .any (opsOf Try.f13 11)=laws_FnPlaces.T11:=by kernel_rfl
theorem laws_FnPlaces.bits11:waitsOk laws_FnPlaces.T11.2 laws_FnPlaces.B11=true:=by kernel_rfl
set_option maxHeartbeats 8000000 in
set_option maxRecDepth 100000 in
theorem laws_FnPlaces.calls (k:Nat) (A0:Option Addr) (c0:Nat) (l0:List Int) (r:Bool) (w:World) (hr0:Kd.C (Kd.int .u8) w A0 l0.length l0) (hc0:l0.length≤c0) (h:laws_FnPlaces.f k l0=some r) (hr_:Aside0 (r=true)) :
  Calls Try.prog 13 #[.slice A0 l0.length c0] w fun e w'=>e = .returned (.bool r)∧Below w.heap.size w w':=by
 have hu43:=Try.underlying43
 have HR0:=Aside0.mk hr0
 have HC0:=Aside0.mk hc0
 clear hr0 hc0
 have HB:=Aside0.mk (Below.refl w.heap.size w)
 have H:((laws_big.f l0).bind fun t462=>(if t462=true then (some true) else ((spec_DrawHandoffs.f k l0).bind fun bt463=>((impl_Primaries.f k bt463.1 bt463.2.1 bt463.2.2.2).bind fun t472=>((impl_Handoffs.f k bt463.1 bt463.2.1 bt463.2.2.1 bt463.2.2.2).bind fun t475=>((spec_Primaries.f k bt463.1 bt463.2.1 bt463.2.2.2).bind fun t478=>(if (t472.length:Int)=(t478.length:Int) then ((spec_Handoffs.f k bt463.1 bt463.2.1 bt463.2.2.1 bt463.2.2.2).bind fun t481=>(laws_FnPlaces.j0 k bt463.2.2.1 bt463.2.2.2 t472 t475 ((t475.length:Int) != (t481.length:Int)) bt463.1 bt463.2.1)) else (laws_FnPlaces.j0 k bt463.2.2.1 bt463.2.2.2 t472 t475 true bt463.1 bt463.2.1))))))))=some r:=h
 clear h
 replace H:=Option.bind_eq_some_iff.mp H
 obtain ⟨t462,A20,H⟩:=H
 replace H:(if t462=true then (some true) else ((spec_DrawHandoffs.f k l0).bind fun bt463=>((impl_Primaries.f k bt463.1 bt463.2.1 bt463.2.2.2).bind fun t472=>((impl_Handoffs.f k bt463.1 bt463.2.1 bt463.2.2.1 bt463.2.2.2).bind fun t475=>((spec_Primaries.f k bt463.1 bt463.2.1 bt463.2.2.2).bind fun t478=>(if (t472.length:Int)=(t478.length:Int) then ((spec_Handoffs.f k bt463.1 bt463.2.1 bt463.2.2.1 bt463.2.2.2).bind fun t481=>(laws_FnPlaces.j0 k bt463.2.2.1 bt463.2.2.2 t472 t475 ((t475.length:Int) != (t481.length:Int)) bt463.1 bt463.2.1)) else (laws_FnPlaces.j0 k bt463.2.2.1 bt463.2.2.2 t472 t475 true bt463.1 bt463.2.1)))))))=some r:=H
 have A2:=Aside0.mk A20
 clear A20
 by_cases c3:t462=true
 ·subst c3
  have H1:(some true)=some r:=by rw [if_pos rfl] at H;exact H
  clear H
  have H:=H1
  clear H1
  obtain rfl:=Option.some.inj H
  go_enter Try.func13,Try.ntmps13
  go_wp2_with (first|((with_reducible refine gate_callee (f:=45) rfl ?_);refine goesL_ (some 10) rfl rfl Try.func45 (by kernel_rfl) rfl #[.slice A0 l0.length c0] rfl (by (try simp only [List.map_toArray,List.map_cons,List.map_nil]);first|done|rfl|(simp only [List.length_drop,List.length_take];rfl)) ?_;(with_reducible refine (laws_big.calls _ _ l0 true _ ?side1 ?side2 A2.out).mono ?_);(case side1=>repeat (first|exact HR0.out|(with_reducible refine Kd.C_alloc ?_ _)|(with_reducible refine Kd.C_drewN ?_ _)|(with_reducible refine Kd.C_drew ?_)));(case side2=>exact HC0.out);rintro e w' ⟨rfl,⟨nd,rfl⟩⟩;refine ⟨_,rfl,?_⟩))
  go_ret
  exact ⟨by first|rfl|(simp [errW_none,errW_some] <;> rfl)|(simp [*,errW_none,errW_some] <;> rfl),by repeat (first|(with_reducible first|exact HB.out|apply below_alloc|apply pw_below_drewN|apply below_drew1)|exact HB.out)⟩
 ·replace c3:=Bool.eq_false_iff.mpr c3
  subst c3
  have H1:((spec_DrawHandoffs.f k l0).bind fun bt463=>((impl_Primaries.f k bt463.1 bt463.2.1 bt463.2.2.2).bind fun t472=>((impl_Handoffs.f k bt463.1 bt463.2.1 bt463.2.2.1 bt463.2.2.2).bind fun t475=>((spec_Primaries.f k bt463.1 bt463.2.1 bt463.2.2.2).bind fun t478=>(if (t472.length:Int)=(t478.length:Int) then ((spec_Handoffs.f k bt463.1 bt463.2.1 bt463.2.2.1 bt463.2.2.2).bind fun t481=>(laws_FnPlaces.j0 k bt463.2.2.1 bt463.2.2.2 t472 t475 ((t475.length:Int) != (t481.length:Int)) bt463.1 bt463.2.1)) else (laws_FnPlaces.j0 k bt463.2.2.1 bt463.2.2.2 t472 t475 true bt463.1 bt463.2.1))))))=some r:=by rw [if_neg (show ¬ (false=true) by decide)] at H;exact H
  clear H
  have H:=H1
  clear H1
  replace H:=Option.bind_eq_some_iff.mp H
  obtain ⟨⟨t463,t464,t467,t470⟩,A40,H⟩:=H
  replace H:((impl_Primaries.f k t463 t464 t470).bind fun t472=>((impl_Handoffs.f k t463 t464 t467 t470).bind fun t475=>((spec_Primaries.f k t463 t464 t470).bind fun t478=>(if (t472.length:Int)=(t478.length:Int) then ((spec_Handoffs.f k t463 t464 t467 t470).bind fun t481=>(laws_FnPlaces.j0 k t467 t470 t472 t475 ((t475.length:Int) != (t481.length:Int)) t463 t464)) else (laws_FnPlaces.j0 k t467 t470 t472 t475 true t463 t464)))))=some r:=H
  have A4:=Aside0.mk A40
  clear A40
  replace H:=Option.bind_eq_some_iff.mp H
  obtain ⟨t472,A50,H⟩:=H
  replace H:((impl_Handoffs.f k t463 t464 t467 t470).bind fun t475=>((spec_Primaries.f k t463 t464 t470).bind fun t478=>(if (t472.length:Int)=(t478.length:Int) then ((spec_Handoffs.f k t463 t464 t467 t470).bind fun t481=>(laws_FnPlaces.j0 k t467 t470 t472 t475 ((t475.length:Int) != (t481.length:Int)) t463 t464)) else (laws_FnPlaces.j0 k t467 t470 t472 t475 true t463 t464))))=some r:=H
  have A5:=Aside0.mk A50
  clear A50
  replace H:=Option.bind_eq_some_iff.mp H
  obtain ⟨t475,A60,H⟩:=H
  replace H:((spec_Primaries.f k t463 t464 t470).bind fun t478=>(if (t472.length:Int)=(t478.length:Int) then ((spec_Handoffs.f k t463 t464 t467 t470).bind fun t481=>(laws_FnPlaces.j0 k t467 t470 t472 t475 ((t475.length:Int) != (t481.length:Int)) t463 t464)) else (laws_FnPlaces.j0 k t467 t470 t472 t475 true t463 t464)))=some r:=H
  have A6:=Aside0.mk A60
  clear A60
  have HC7:=Aside0.mk H
  clear H
  go_enter Try.func13,Try.ntmps13
  go_upto_region 6 with (first|((with_reducible refine gate_callee (f:=45) rfl ?_);refine goesL_ (some 10) rfl rfl Try.func45 (by kernel_rfl) rfl #[.slice A0 l0.length c0] rfl (by (try simp only [List.map_toArray,List.map_cons,List.map_nil]);first|done|rfl|(simp only [List.length_drop,List.length_take];rfl)) ?_;(with_reducible refine (laws_big.calls _ _ l0 false _ ?side1 ?side2 A2.out).mono ?_);(case side1=>repeat (first|exact HR0.out|(with_reducible refine Kd.C_alloc ?_ _)|(with_reducible refine Kd.C_drewN ?_ _)|(with_reducible refine Kd.C_drew ?_)));(case side2=>exact HC0.out);rintro e w' ⟨rfl,⟨nd,rfl⟩⟩;refine ⟨_,rfl,?_⟩)|((with_reducible refine gate_callee (f:=63) rfl ?_);refine goesL_ (some 13) rfl rfl Try.func63 (by kernel_rfl) rfl #[.slice A0 l0.length c0] rfl (by (try simp only [List.map_toArray,List.map_cons,List.map_nil]);first|done|rfl|(simp only [List.length_drop,List.length_take];rfl)) ?_;(with_reducible refine (spec_DrawHandoffs.calls k _ _ l0 t463 t464 t467 t470 _ ?side1 ?side2 A4.out).mono ?_);(case side1=>repeat (first|exact HR0.out|(with_reducible refine Kd.C_alloc ?_ _)|(with_reducible refine Kd.C_drewN ?_ _)|(with_reducible refine Kd.C_drew ?_)));(case side2=>exact HC0.out);rintro e w8 ⟨v465,v468,rfl,ho0,ho1,hb⟩;refine ⟨_,rfl,?_⟩;have n0_:=Aside0.mk (Kd.S_lower ho0 (below_size (by repeat (first|(with_reducible first|exact HB.out|apply below_alloc|apply pw_below_drewN|apply below_drew1)|exact HB.out))));have n1_:=Aside0.mk (Kd.R_lower ho1 (below_size (by repeat (first|(with_reducible first|exact HB.out|apply below_alloc|apply pw_below_drewN|apply below_drew1)|exact HB.out))));have n2_:=Aside0.mk (below_step (by repeat (first|(with_reducible first|exact HB.out|apply below_alloc|apply pw_below_drewN|apply below_drew1)|exact HB.out)) hb);clear HB;have HO466:=n0_;have HO469:=n1_;have HB:=n2_;clear n0_ n1_ n2_;(try clear hb);(try clear hb2);(try clear hk);(try clear hi);(try clear ho0);(try clear ho1))|((with_reducible refine gate_dst (N:=3) rfl ?_);(try (refine gate_guard (by rfl) ?_;dsimp only));refine box_event ?hg (N:=3) ?hd (cs:=#[.int .i64 0,.slice none 0 0]) (t:=43) ?hr ?_;(case hd=>rfl);(case hg=>rfl);(case hr=>first|(go_simp;done)|(go_simp;rfl));intro gb471 hg w9 hbox hb;have n0_:=Aside0.mk (Kd.S_below (by (with_reducible repeat (first|apply Kd.S_alloc|apply Kd.S_drewN|apply Kd.S_drew));exact HO466.out) hb);have n1_:=Aside0.mk (Kd.R_below (by (with_reducible repeat (first|apply Kd.R_alloc|apply Kd.R_drewN|apply Kd.R_drew));exact HO469.out) hb);have n2_:=Aside0.mk (below_step (by repeat (first|(with_reducible first|exact HB.out|apply below_alloc|apply pw_below_drewN|apply below_drew1)|exact HB.out)) hb);have n3_:=Aside0.mk (hbox);have n4_:=Aside0.mk ((by rw [hg];exact (below_size (by repeat (first|(with_reducible first|exact HB.out|apply below_alloc|apply pw_below_drewN|apply below_drew1)|exact HB.out))):w.heap.size≤gb471));have n5_:=Aside0.mk ((by rw [hg];exact (below_size (by repeat (first|(with_reducible first|exact HB.out|apply below_alloc|apply pw_below_drewN|apply below_drew1)|exact HB.out))):w.heap.size≤gb471));clear HO466;clear HO469;clear HB;have HO466:=n0_;have HO469:=n1_;have HB:=n2_;have BK471:=n3_;have GW471:=n4_;have GE471:=n5_;clear n0_ n1_ n2_ n3_ n4_ n5_;clear hb hbox hg;have hcz10_0:w9.cell? ⟨gb471,0,none⟩=some (.int .i64 0):=(blk_cell BK471.out 0).trans rfl;have hcz10_1:w9.cell? ⟨gb471,1,none⟩=some (.slice none 0 0):=(blk_cell BK471.out 1).trans rfl;have hfz10_0:=blk_frozen BK471.out 0;have hfz10_1:=blk_frozen BK471.out 1;obtain ⟨Ao11,co11,eo11⟩:=Kd.S_slice HO466.out;subst eo11)|((with_reducible refine gate_callee (f:=29) rfl ?_);refine goesL_ (some 19) rfl rfl Try.func29 (by kernel_rfl) rfl #[.agg #[.int .i64 t463,.slice Ao11 t464.length co11],.string t470] rfl (by (try simp only [List.map_toArray,List.map_cons,List.map_nil]);first|done|rfl|(simp only [List.length_drop,List.length_take];rfl)) ?_;(with_reducible refine (impl_Primaries.calls k t463 _ _ t464 t470 t472 _ ?side1 ?side2 A5.out).mono ?_);(case side1=>refine (Kd.S_reads' (e:=29) (base:=w.heap.size) (ok:=fun k_=>True) (n:=t464.length) (c:=co11) ?_).2.2;exact (by (with_reducible repeat (first|apply Kd.S_alloc|apply Kd.S_drewN|apply Kd.S_drew));exact (Kd.S_mono (Kd.S_far (p:=⟨gb471,1,none⟩) (Kd.S_far (p:=⟨gb471,0,none⟩) (Kd.S_types HO466.out BK471.out (by decide)) (fun _ hk=>hk.2) (.int .i64 t463)) (fun _ hk=>hk.2) (.slice Ao11 t464.length co11)) (fun _ h_=>h_.1))));(case side2=>exact (Kd.S_reads' HO466.out).2.1);rintro e w12 ⟨v473,rfl,ho0,hb⟩;refine ⟨_,rfl,?_⟩;have n0_:=Aside0.mk (Kd.S_elder' (by (with_reducible repeat (first|apply Kd.S_alloc|apply Kd.S_drewN|apply Kd.S_drew));exact (Kd.S_mono (Kd.S_far (p:=⟨gb471,1,none⟩) (Kd.S_far (p:=⟨gb471,0,none⟩) (Kd.S_types HO466.out BK471.out (by decide)) (fun _ hk=>hk.2) (.int .i64 t463)) (fun _ hk=>hk.2) (.slice Ao11 t464.length co11)) (fun _ h_=>h_.1))) (Kd.R_base ho0) hb);have n1_:=Aside0.mk (Kd.R_below (by (with_reducible repeat (first|apply Kd.R_alloc|apply Kd.R_drewN|apply Kd.R_drew));exact (Kd.R_mono (Kd.R_far (p:=⟨gb471,1,none⟩) (Kd.R_far (p:=⟨gb471,0,none⟩) (Kd.R_types HO469.out BK471.out (by decide)) (fun _ hk=>hk.2) (.int .i64 t463)) (fun _ hk=>hk.2) (.slice Ao11 t464.length co11)) (fun _ h_=>h_.1))) hb);have n2_:=Aside0.mk (Kd.R_lower ho0 (below_size (by repeat (first|(with_reducible first|exact HB.out|apply below_alloc|apply pw_below_drewN|apply below_drew1|refine below_set ?_ GE471.out)|exact HB.out))));have n3_:=Aside0.mk (blk_below (g:=gb471) (o:=.cells #[.int .i64 t463,.slice Ao11 t464.length co11] 43 (0,0)) (by (with_reducible repeat (first|refine blk_drewN ?_ _|refine blk_drew ?_|refine blk_alloc ?_ _));refine blk_put (cs:=#[.int .i64 t463,.slice none 0 0]) ?_ 1 _ rfl;(with_reducible repeat (first|refine blk_drewN ?_ _|refine blk_drew ?_|refine blk_alloc ?_ _));refine blk_put (cs:=#[.int .i64 0,.slice none 0 0]) ?_ 0 _ rfl;(with_reducible repeat (first|refine blk_drewN ?_ _|refine blk_drew ?_|refine blk_alloc ?_ _));exact BK471.out) hb);have n4_:=Aside0.mk (below_step (by repeat (first|(with_reducible first|exact HB.out|apply below_alloc|apply pw_below_drewN|apply below_drew1|refine below_set ?_ GE471.out)|exact HB.out)) hb);clear HO466;clear HO469;clear BK471;clear HB;have HO466:=n0_;have HO469:=n1_;have HO474:=n2_;have BK471:=n3_;have HB:=n4_;clear n0_ n1_ n2_ n3_ n4_;(try clear hb);(try clear hb2);(try clear hk);(try clear hi);(try clear ho0);have hcz13_0:w12.cell? ⟨gb471,0,none⟩=some (.int .i64 t463):=(blk_cell BK471.out 0).trans rfl;have hcz13_1:w12.cell? ⟨gb471,1,none⟩=some (.slice Ao11 t464.length co11):=(blk_cell BK471.out 1).trans rfl;have hfz13_0:=blk_frozen BK471.out 0;have hfz13_1:=blk_frozen BK471.out 1;obtain ⟨Ao14,co14,eo14⟩:=Kd.R_slice HO469.out;subst eo14)|((with_reducible refine gate_callee (f:=58) rfl ?_);refine goesL_ (some 23) rfl rfl Try.func58 (by kernel_rfl) rfl #[.agg #[.int .i64 t463,.slice Ao11 t464.length co11],.slice Ao14 t467.length co14,.string t470] rfl (by (try simp only [List.map_toArray,List.map_cons,List.map_nil]);first|done|rfl|(simp only [List.length_drop,List.length_take];rfl)) ?_;(with_reducible refine (impl_Handoffs.calls k t463 _ _ t464 _ _ t467 t470 t475 _ ?side1 ?side2 ?side3 ?side4 A6.out).mono ?_);(case side1=>repeat (first|exact (Kd.S_reads' HO466.out).2.2|(with_reducible refine Kd.C_alloc ?_ _)|(with_reducible refine Kd.C_drewN ?_ _)|(with_reducible refine Kd.C_drew ?_)));(case side2=>exact (Kd.S_reads' HO466.out).2.1);(case side3=>repeat (first|exact (Kd.R_reads' HO469.out).2.2|(with_reducible refine Kd.C_alloc ?_ _)|(with_reducible refine Kd.C_drewN ?_ _)|(with_reducible refine Kd.C_drew ?_)));(case side4=>exact (Kd.R_reads' HO469.out).2.1);rintro e w15 ⟨v476,rfl,ho0,hb⟩;refine ⟨_,rfl,?_⟩;have n0_:=Aside0.mk (Kd.S_elder' (by (with_reducible repeat (first|apply Kd.S_alloc|apply Kd.S_drewN|apply Kd.S_drew));exact HO466.out) (Kd.R_base ho0) hb);have n1_:=Aside0.mk (Kd.R_below (by (with_reducible repeat (first|apply Kd.R_alloc|apply Kd.R_drewN|apply Kd.R_drew));exact HO469.out) hb);have n2_:=Aside0.mk (Kd.R_elder' (by (with_reducible repeat (first|apply Kd.R_alloc|apply Kd.R_drewN|apply Kd.R_drew));exact HO474.out) (Kd.R_base ho0) hb);have n3_:=Aside0.mk (Kd.R_lower (Kd.R_new' ho0 (Kd.R_lt (by (with_reducible repeat (first|apply Kd.R_alloc|apply Kd.R_drewN|apply Kd.R_drew));exact HO474.out))) (below_size (by repeat (first|(with_reducible first|exact HB.out|apply below_alloc|apply pw_below_drewN|apply below_drew1|refine below_set ?_ GE471.out)|exact HB.out))));have n4_:=Aside0.mk (blk_below (g:=gb471) (o:=.cells #[.int .i64 t463,.slice Ao11 t464.length co11] 43 (0,0)) (by (with_reducible repeat (first|refine blk_drewN ?_ _|refine blk_drew ?_|refine blk_alloc ?_ _));exact BK471.out) hb);have n5_:=Aside0.mk (below_step (by repeat (first|(with_reducible first|exact HB.out|apply below_alloc|apply pw_below_drewN|apply below_drew1|refine below_set ?_ GE471.out)|exact HB.out)) hb);clear HO466;clear HO469;clear HO474;clear BK471;clear HB;have HO466:=n0_;have HO469:=n1_;have HO474:=n2_;have HO477:=n3_;have BK471:=n4_;have HB:=n5_;clear n0_ n1_ n2_ n3_ n4_ n5_;(try clear hb);(try clear hb2);(try clear hk);(try clear hi);(try clear ho0)))
  (try simp only [Act.put,List.setIfInBounds_toArray,List.set_cons_zero,List.set_cons_succ])
  go_cut [40] (fun v40 wc=>∃ (kq:Nat) (x40_6:Bool),v40 = .bool x40_6∧Aside0 (laws_FnPlaces.j0 kq t467 t470 t472 t475 x40_6 t463 t464=some r)∧Aside0 (kq≤k)∧Aside0 (Kd.R k76 76 wc w.heap.size (fun _=>True) (.slice Ao14 t467.length co14) t467)∧Aside0 (Kd.R (Kd.int .i64) 3 wc w.heap.size (fun k_=>some k_ ≠ (v476:Value).ownBlock) v473 t472)∧Aside0 (Kd.R (Kd.int .i64) 3 wc w.heap.size (fun k_=>some k_ ≠ (v473:Value).ownBlock) v476 t475)∧Aside0 (Kd.S k29 29 wc w.heap.size (fun k_=>some k_ ≠ (v473:Value).ownBlock∧some k_ ≠ (v476:Value).ownBlock) (.slice Ao11 t464.length co11) t464)∧Aside0 (wc.heap[gb471]?=some (.cells #[.int .i64 t463,(.slice Ao11 t464.length co11)] 43 (0,0)))∧Aside0 (Below w.heap.size w wc))
  case first=>
   have H:=HC7.out
   clear HC7
   replace H:=Option.bind_eq_some_iff.mp H
   obtain ⟨t478,A160,H⟩:=H
   replace H:(if (t472.length:Int)=(t478.length:Int) then ((spec_Handoffs.f k t463 t464 t467 t470).bind fun t481=>(laws_FnPlaces.j0 k t467 t470 t472 t475 ((t475.length:Int) != (t481.length:Int)) t463 t464)) else (laws_FnPlaces.j0 k t467 t470 t472 t475 true t463 t464))=some r:=H
   have A16:=Aside0.mk A160
   clear A160
   by_cases c17:(t472.length:Int)=(t478.length:Int)
   ·rw [if_pos c17] at H
    have c17b0:((t472.length:Int) == (t478.length:Int))=true:=beq_iff_eq.mpr c17
    have c17b1:((t472.length:Int) != (t478.length:Int))=false:=bne_eq_false_iff_eq.mpr c17
    have c17b2:(t472.length == t478.length)=true:=by first|simpa using c17|(simp at c17 ⊢;omega)
    clear c17
    (first|rw [c17b0]|(simp only [i64_w,i32_w];rw [c17b0])|skip)
    replace H:=Option.bind_eq_some_iff.mp H
    obtain ⟨t481,A180,H⟩:=H
    replace H:(laws_FnPlaces.j0 k t467 t470 t472 t475 ((t475.length:Int) != (t481.length:Int)) t463 t464)=some r:=H
    have A18:=Aside0.mk A180
    clear A180
    have H':=Aside0.mk H
    clear H
    obtain ⟨Ao19,co19,eo19⟩:=Kd.R_slice HO474.out
    subst eo19
    have hcz20_0:w15.cell? ⟨gb471,0,none⟩=some (.int .i64 t463):=(blk_cell BK471.out 0).trans rfl
    have hcz20_1:w15.cell? ⟨gb471,1,none⟩=some (.slice Ao11 t464.length co11):=(blk_cell BK471.out 1).trans rfl
    have hfz20_0:=blk_frozen BK471.out 0
    have hfz20_1:=blk_frozen BK471.out 1
    go_wp2_with (first|((with_reducible refine gate_callee (f:=28) rfl ?_);refine goesL_ (some 28) rfl rfl Try.func28 (by kernel_rfl) rfl #[.agg #[.int .i64 t463,.slice Ao11 t464.length co11],.string t470] rfl (by (try simp only [List.map_toArray,List.map_cons,List.map_nil]);first|done|rfl|(simp only [List.length_drop,List.length_take];rfl)) ?_;(with_reducible refine (spec_Primaries.calls k t463 _ _ t464 t470 t478 _ ?side1 ?side2 A16.out).mono ?_);(case side1=>repeat (first|exact (Kd.S_reads' HO466.out).2.2|(with_reducible refine Kd.C_alloc ?_ _)|(with_reducible refine Kd.C_drewN ?_ _)|(with_reducible refine Kd.C_drew ?_)));(case side2=>exact (Kd.S_reads' HO466.out).2.1);rintro e w21 ⟨v479,rfl,ho0,hb⟩;refine ⟨_,rfl,?_⟩;have n0_:=Aside0.mk (Kd.S_elder' (by (with_reducible repeat (first|apply Kd.S_alloc|apply Kd.S_drewN|apply Kd.S_drew));exact HO466.out) (Kd.R_base ho0) hb);have n1_:=Aside0.mk (Kd.R_below (by (with_reducible repeat (first|apply Kd.R_alloc|apply Kd.R_drewN|apply Kd.R_drew));exact HO469.out) hb);have n2_:=Aside0.mk (Kd.R_elder' (by (with_reducible repeat (first|apply Kd.R_alloc|apply Kd.R_drewN|apply Kd.R_drew));exact HO474.out) (Kd.R_base ho0) hb);have n3_:=Aside0.mk (Kd.R_elder' (by (with_reducible repeat (first|apply Kd.R_alloc|apply Kd.R_drewN|apply Kd.R_drew));exact HO477.out) (Kd.R_base ho0) hb);have n4_:=Aside0.mk (Kd.R_lower (Kd.R_new' (Kd.R_new' ho0 (Kd.R_lt (by (with_reducible repeat (first|apply Kd.R_alloc|apply Kd.R_drewN|apply Kd.R_drew));exact HO474.out))) (Kd.R_lt (by (with_reducible repeat (first|apply Kd.R_alloc|apply Kd.R_drewN|apply Kd.R_drew));exact HO477.out))) (below_size (by repeat (first|(with_reducible first|exact HB.out|apply below_alloc|apply pw_below_drewN|apply below_drew1|refine below_set ?_ GE471.out)|exact HB.out))));have n5_:=Aside0.mk (blk_below (g:=gb471) (o:=.cells #[.int .i64 t463,.slice Ao11 t464.length co11] 43 (0,0)) (by (with_reducible repeat (first|refine blk_drewN ?_ _|refine blk_drew ?_|refine blk_alloc ?_ _));exact BK471.out) hb);have n6_:=Aside0.mk (below_step (by repeat (first|(with_reducible first|exact HB.out|apply below_alloc|apply pw_below_drewN|apply below_drew1|refine below_set ?_ GE471.out)|exact HB.out)) hb);clear HO466;clear HO469;clear HO474;clear HO477;clear BK471;clear HB;have HO466:=n0_;have HO469:=n1_;have HO474:=n2_;have HO477:=n3_;have HO480:=n4_;have BK471:=n5_;have HB:=n6_;clear n0_ n1_ n2_ n3_ n4_ n5_ n6_;(try clear hb);(try clear hb2);(try clear hk);(try clear hi);(try clear ho0);obtain ⟨Ao22,co22,eo22⟩:=Kd.R_slice HO480.out;subst eo22;obtain ⟨Ao23,co23,eo23⟩:=Kd.R_slice HO477.out;subst eo23;have hcz24_0:w21.cell? ⟨gb471,0,none⟩=some (.int .i64 t463):=(blk_cell BK471.out 0).trans rfl;have hcz24_1:w21.cell? ⟨gb471,1,none⟩=some (.slice Ao11 t464.length co11):=(blk_cell BK471.out 1).trans rfl;have hfz24_0:=blk_frozen BK471.out 0;have hfz24_1:=blk_frozen BK471.out 1)|(go_at_call 57;(with_reducible refine (spec_Handoffs.calls k t463 _ _ t464 _ _ t467 t470 t481 _ ?side1 ?side2 ?side3 ?side4 A18.out).mono ?_);(case side1=>repeat (first|exact (Kd.S_reads' HO466.out).2.2|(with_reducible refine Kd.C_alloc ?_ _)|(with_reducible refine Kd.C_drewN ?_ _)|(with_reducible refine Kd.C_drew ?_)));(case side2=>exact (Kd.S_reads' HO466.out).2.1);(case side3=>repeat (first|exact (Kd.R_reads' HO469.out).2.2|(with_reducible refine Kd.C_alloc ?_ _)|(with_reducible refine Kd.C_drewN ?_ _)|(with_reducible refine Kd.C_drew ?_)));(case side4=>exact (Kd.R_reads' HO469.out).2.1);rintro e w25 ⟨v482,rfl,ho0,hb⟩;have n0_:=Aside0.mk (Kd.S_elder' (by (with_reducible repeat (first|apply Kd.S_alloc|apply Kd.S_drewN|apply Kd.S_drew));exact HO466.out) (Kd.R_base ho0) hb);have n1_:=Aside0.mk (Kd.R_below (by (with_reducible repeat (first|apply Kd.R_alloc|apply Kd.R_drewN|apply Kd.R_drew));exact HO469.out) hb);have n2_:=Aside0.mk (Kd.R_elder' (by (with_reducible repeat (first|apply Kd.R_alloc|apply Kd.R_drewN|apply Kd.R_drew));exact HO474.out) (Kd.R_base ho0) hb);have n3_:=Aside0.mk (Kd.R_elder' (by (with_reducible repeat (first|apply Kd.R_alloc|apply Kd.R_drewN|apply Kd.R_drew));exact HO477.out) (Kd.R_base ho0) hb);have n4_:=Aside0.mk (Kd.R_elder' (by (with_reducible repeat (first|apply Kd.R_alloc|apply Kd.R_drewN|apply Kd.R_drew));exact HO480.out) (Kd.R_base ho0) hb);have n5_:=Aside0.mk (Kd.R_lower (Kd.R_new' (Kd.R_new' (Kd.R_new' ho0 (Kd.R_lt (by (with_reducible repeat (first|apply Kd.R_alloc|apply Kd.R_drewN|apply Kd.R_drew));exact HO474.out))) (Kd.R_lt (by (with_reducible repeat (first|apply Kd.R_alloc|apply Kd.R_drewN|apply Kd.R_drew));exact HO477.out))) (Kd.R_lt (by (with_reducible repeat (first|apply Kd.R_alloc|apply Kd.R_drewN|apply Kd.R_drew));exact HO480.out))) (below_size (by repeat (first|(with_reducible first|exact HB.out|apply below_alloc|apply pw_below_drewN|apply below_drew1|refine below_set ?_ GE471.out)|exact HB.out))));have n6_:=Aside0.mk (blk_below (g:=gb471) (o:=.cells #[.int .i64 t463,.slice Ao11 t464.length co11] 43 (0,0)) (by (with_reducible repeat (first|refine blk_drewN ?_ _|refine blk_drew ?_|refine blk_alloc ?_ _));exact BK471.out) hb);have n7_:=Aside0.mk (below_step (by repeat (first|(with_reducible first|exact HB.out|apply below_alloc|apply pw_below_drewN|apply below_drew1|refine below_set ?_ GE471.out)|exact HB.out)) hb);clear HO466;clear HO469;clear HO474;clear HO477;clear HO480;clear BK471;clear HB;have HO466:=n0_;have HO469:=n1_;have HO474:=n2_;have HO477:=n3_;have HO480:=n4_;have HO483:=n5_;have BK471:=n6_;have HB:=n7_;clear n0_ n1_ n2_ n3_ n4_ n5_ n6_ n7_;(try clear hb);(try clear hb2);(try clear hk);(try clear hi);(try clear ho0);obtain ⟨Ao26,co26,eo26⟩:=Kd.R_slice HO483.out;subst eo26))
    go_meet
    case rel=>exact ⟨_,(((t475.length:Int) != (t481.length:Int))),(by first|rfl|(simp;done)|(simp [*];done)),H',⟨by first|omega|exact Nat.le_refl _⟩,⟨by (with_reducible repeat (first|apply Kd.R_alloc|apply Kd.R_drewN|apply Kd.R_drew));exact HO469.out⟩,⟨by (with_reducible repeat (first|apply Kd.R_alloc|apply Kd.R_drewN|apply Kd.R_drew));exact Kd.R_mono HO474.out (fun _ hk=>hk.1.1.2)⟩,⟨by (with_reducible repeat (first|apply Kd.R_alloc|apply Kd.R_drewN|apply Kd.R_drew));exact Kd.R_mono HO477.out (fun _ hk=>hk.1.1.2)⟩,⟨by (with_reducible repeat (first|apply Kd.S_alloc|apply Kd.S_drewN|apply Kd.S_drew));exact Kd.S_mono HO466.out (fun _ hk=>⟨hk.1.1.1.2,hk.1.1.2⟩)⟩,⟨by (with_reducible repeat (first|refine blk_drewN ?_ _|refine blk_drew ?_|refine blk_alloc ?_ _));exact BK471.out⟩,⟨by repeat (first|(with_reducible first|exact HB.out|apply below_alloc|apply pw_below_drewN|apply below_drew1|refine below_set ?_ GE471.out)|exact HB.out)⟩⟩
   ·rw [if_neg c17] at H
    have c17b0:((t472.length:Int) == (t478.length:Int))=false:=beq_eq_false_iff_ne.mpr c17
    have c17b1:((t472.length:Int) != (t478.length:Int))=true:=bne_iff_ne.mpr c17
    have c17b2:(t472.length == t478.length)=false:=by first|simpa using c17|(simp at c17 ⊢;omega)
    (first|rw [c17b0]|(simp only [i64_w,i32_w];rw [c17b0])|skip)
    have H':=Aside0.mk H
    clear H
    obtain ⟨Ao27,co27,eo27⟩:=Kd.R_slice HO474.out
    subst eo27
    have hcz28_0:w15.cell? ⟨gb471,0,none⟩=some (.int .i64 t463):=(blk_cell BK471.out 0).trans rfl
    have hcz28_1:w15.cell? ⟨gb471,1,none⟩=some (.slice Ao11 t464.length co11):=(blk_cell BK471.out 1).trans rfl
    have hfz28_0:=blk_frozen BK471.out 0
    have hfz28_1:=blk_frozen BK471.out 1
    go_wp2_with (first|((with_reducible refine gate_callee (f:=28) rfl ?_);refine goesL_ (some 28) rfl rfl Try.func28 (by kernel_rfl) rfl #[.agg #[.int .i64 t463,.slice Ao11 t464.length co11],.string t470] rfl (by (try simp only [List.map_toArray,List.map_cons,List.map_nil]);first|done|rfl|(simp only [List.length_drop,List.length_take];rfl)) ?_;(with_reducible refine (spec_Primaries.calls k t463 _ _ t464 t470 t478 _ ?side1 ?side2 A16.out).mono ?_);(case side1=>repeat (first|exact (Kd.S_reads' HO466.out).2.2|(with_reducible refine Kd.C_alloc ?_ _)|(with_reducible refine Kd.C_drewN ?_ _)|(with_reducible refine Kd.C_drew ?_)));(case side2=>exact (Kd.S_reads' HO466.out).2.1);rintro e w29 ⟨v479,rfl,ho0,hb⟩;refine ⟨_,rfl,?_⟩;have n0_:=Aside0.mk (Kd.S_elder' (by (with_reducible repeat (first|apply Kd.S_alloc|apply Kd.S_drewN|apply Kd.S_drew));exact HO466.out) (Kd.R_base ho0) hb);have n1_:=Aside0.mk (Kd.R_below (by (with_reducible repeat (first|apply Kd.R_alloc|apply Kd.R_drewN|apply Kd.R_drew));exact HO469.out) hb);have n2_:=Aside0.mk (Kd.R_elder' (by (with_reducible repeat (first|apply Kd.R_alloc|apply Kd.R_drewN|apply Kd.R_drew));exact HO474.out) (Kd.R_base ho0) hb);have n3_:=Aside0.mk (Kd.R_elder' (by (with_reducible repeat (first|apply Kd.R_alloc|apply Kd.R_drewN|apply Kd.R_drew));exact HO477.out) (Kd.R_base ho0) hb);have n4_:=Aside0.mk (Kd.R_lower (Kd.R_new' (Kd.R_new' ho0 (Kd.R_lt (by (with_reducible repeat (first|apply Kd.R_alloc|apply Kd.R_drewN|apply Kd.R_drew));exact HO474.out))) (Kd.R_lt (by (with_reducible repeat (first|apply Kd.R_alloc|apply Kd.R_drewN|apply Kd.R_drew));exact HO477.out))) (below_size (by repeat (first|(with_reducible first|exact HB.out|apply below_alloc|apply pw_below_drewN|apply below_drew1|refine below_set ?_ GE471.out)|exact HB.out))));have n5_:=Aside0.mk (blk_below (g:=gb471) (o:=.cells #[.int .i64 t463,.slice Ao11 t464.length co11] 43 (0,0)) (by (with_reducible repeat (first|refine blk_drewN ?_ _|refine blk_drew ?_|refine blk_alloc ?_ _));exact BK471.out) hb);have n6_:=Aside0.mk (below_step (by repeat (first|(with_reducible first|exact HB.out|apply below_alloc|apply pw_below_drewN|apply below_drew1|refine below_set ?_ GE471.out)|exact HB.out)) hb);clear HO466;clear HO469;clear HO474;clear HO477;clear BK471;clear HB;have HO466:=n0_;have HO469:=n1_;have HO474:=n2_;have HO477:=n3_;have HO480:=n4_;have BK471:=n5_;have HB:=n6_;clear n0_ n1_ n2_ n3_ n4_ n5_ n6_;(try clear hb);(try clear hb2);(try clear hk);(try clear hi);(try clear ho0);obtain ⟨Ao30,co30,eo30⟩:=Kd.R_slice HO480.out;subst eo30))
    go_meet
    case rel=>exact ⟨_,(true),(by first|rfl|(simp;done)|(simp [*];done)),H',⟨by first|omega|exact Nat.le_refl _⟩,⟨by (with_reducible repeat (first|apply Kd.R_alloc|apply Kd.R_drewN|apply Kd.R_drew));exact HO469.out⟩,⟨by (with_reducible repeat (first|apply Kd.R_alloc|apply Kd.R_drewN|apply Kd.R_drew));exact Kd.R_mono HO474.out (fun _ hk=>hk.1.2)⟩,⟨by (with_reducible repeat (first|apply Kd.R_alloc|apply Kd.R_drewN|apply Kd.R_drew));exact Kd.R_mono HO477.out (fun _ hk=>hk.1.2)⟩,⟨by (with_reducible repeat (first|apply Kd.S_alloc|apply Kd.S_drewN|apply Kd.S_drew));exact Kd.S_mono HO466.out (fun _ hk=>⟨hk.1.1.2,hk.1.2⟩)⟩,⟨by (with_reducible repeat (first|refine blk_drewN ?_ _|refine blk_drew ?_|refine blk_alloc ?_ _));exact BK471.out⟩,⟨by repeat (first|(with_reducible first|exact HB.out|apply below_alloc|apply pw_below_drewN|apply below_drew1|refine below_set ?_ GE471.out)|exact HB.out)⟩⟩
  case rest=>
   clear HC7
   try clear c1
   try clear c2
   try clear p2
   try clear c3
   try clear c4
   try clear c5
   try clear c6
   try clear c13
   try clear c17
   try clear c17b0
   try clear c17b1
   try clear c17b2
   try clear c28
   try clear c29
   try clear hcz10_0
   try clear hcz10_1
   try clear hcz13_0
   try clear hcz13_1
   try clear hcz20_0
   try clear hcz20_1
   try clear hcz24_0
   try clear hcz24_1
   try clear hcz28_0
   try clear hcz28_1
   try clear hfz10_0
   try clear hfz10_1
   try clear hfz13_0
   try clear hfz13_1
   try clear hfz20_0
   try clear hfz20_1
   try clear hfz24_0
   try clear hfz24_1
   try clear hfz28_0
   try clear hfz28_1
   obtain ⟨kq,x40_6,rfl,HA,HJ6,HO_4,HO_6,HO_7,HO_472001,BK471,HB⟩:=hcut
   cases kq with
   | zero=>exact absurd HA.out (by simp [laws_FnPlaces.j0])
   | succ kj6=>
    have H:=HA.out
    clear HA
    simp only [laws_FnPlaces.j0] at H
    by_cases c31:x40_6=true
    ·subst c31
     have H1:(some false)=some r:=by rw [if_pos rfl] at H;exact H
     clear H
     have H:=H1
     clear H1
     exact absurd ((Option.some.inj H).trans hr_.out) (by decide)
    ·replace c31:=Bool.eq_false_iff.mpr c31
     subst c31
     have H1:(laws_FnPlaces.l0 kj6 t467 t470 t472 t475 0 t463 t464)=some r:=by rw [if_neg (show ¬ (false=true) by decide)] at H;exact H
     clear H
     have H:=H1
     clear H1
     have H':=Aside0.mk H
     clear H
     go_wp2
     go_loopg [8] kj6 (fun kq v8 w'=>∃ (x8_2:Int),v8 = .int .i64 x8_2∧Aside0 (laws_FnPlaces.l0 kq t467 t470 t472 t475 x8_2 t463 t464=some r)∧Aside0 (kq≤kj6)∧Aside0 (Kd.R k76 76 w' w.heap.size (fun _=>True) (.slice Ao14 t467.length co14) t467)∧Aside0 (Kd.R (Kd.int .i64) 3 w' w.heap.size (fun k_=>some k_ ≠ (v476:Value).ownBlock) v473 t472)∧Aside0 (Kd.R (Kd.int .i64) 3 w' w.heap.size (fun k_=>some k_ ≠ (v473:Value).ownBlock) v476 t475)∧Aside0 (Kd.S k29 29 w' w.heap.size (fun k_=>some k_ ≠ (v473:Value).ownBlock∧some k_ ≠ (v476:Value).ownBlock) (.slice Ao11 t464.length co11) t464)∧Aside0 (w'.heap[gb471]?=some (.cells #[.int .i64 t463,(.slice Ao11 t464.length co11)] 43 (0,0)))∧Aside0 (Below w.heap.size w w'))
     case atStart=>exact ⟨(0),(by first|rfl|(simp;done)|(simp [*];done)),H',⟨Nat.le_refl _⟩,⟨by (with_reducible repeat (first|apply Kd.R_alloc|apply Kd.R_drewN|apply Kd.R_drew));exact HO_4.out⟩,⟨by (with_reducible repeat (first|apply Kd.R_alloc|apply Kd.R_drewN|apply Kd.R_drew));exact HO_6.out⟩,⟨by (with_reducible repeat (first|apply Kd.R_alloc|apply Kd.R_drewN|apply Kd.R_drew));exact HO_7.out⟩,⟨by (with_reducible repeat (first|apply Kd.S_alloc|apply Kd.S_drewN|apply Kd.S_drew));exact HO_472001.out⟩,⟨by (with_reducible repeat (first|refine blk_drewN ?_ _|refine blk_drew ?_|refine blk_alloc ?_ _));exact BK471.out⟩,⟨by repeat (first|(with_reducible first|exact HB.out|apply below_alloc|apply pw_below_drewN|apply below_drew1|refine below_set ?_ GE471.out)|exact HB.out)⟩⟩
     case round=>
      clear H'
      try clear c1
      try clear c2
      try clear p2
      try clear c3
      try clear c4
      try clear c5
      try clear c6
      try clear c13
      try clear c17
      try clear c17b0
      try clear c17b1
      try clear c17b2
      try clear c28
      try clear c29
      try clear c31
      try clear hcz10_0
      try clear hcz10_1
      try clear hcz13_0
      try clear hcz13_1
      try clear hcz20_0
      try clear hcz20_1
      try clear hcz24_0
      try clear hcz24_1
      try clear hcz28_0
      try clear hcz28_1
      try clear hfz10_0
      try clear hfz10_1
      try clear hfz13_0
      try clear hfz13_1
      try clear hfz20_0
      try clear hfz20_1
      try clear hfz24_0
      try clear hfz24_1
      try clear hfz28_0
      try clear hfz28_1
      try clear p2
      obtain ⟨x8_2,rfl,HA,HK2,HO_4,HO_6,HO_7,HO_472001,BK471,HB⟩:=hrel
      cases gk with
      | zero=>exact absurd HA.out (by simp [laws_FnPlaces.l0])
      | succ k2=>
       have H:=HA.out
       clear HA
       simp only [laws_FnPlaces.l0] at H
       by_cases c32:x8_2 < (t467.length:Int)
       ·rw [if_pos c32] at H
        have c32b0:decide (x8_2 < (t467.length:Int))=true:=decide_eq_true c32
        clear c32
        by_cases c33:0≤x8_2
        ·rw [if_pos c33] at H
         have c33b0:decide (0≤x8_2)=true:=decide_eq_true c33
         clear c33
         replace H:=Option.bind_eq_some_iff.mp H
         obtain ⟨t486,A340,H⟩:=H
         replace H:((laws_has.f k2 t475 ((rd_T76 t467 x8_2).f0)).bind fun t488=>(if (t486 == t488)=true then (some false) else ((laws_has.f k2 t472 ((rd_T76 t467 x8_2).f0)).bind fun t490=>((impl_IsPrimary.f k2 t463 t464 t470 ((rd_T76 t467 x8_2).f0)).bind fun t492=>(if (t490 != t492)=true then (some false) else (laws_FnPlaces.l0 k2 t467 t470 t472 t475 (wrap64 (x8_2+1)) t463 t464))))))=some r:=H
         have A34:=Aside0.mk A340
         clear A340
         replace H:=Option.bind_eq_some_iff.mp H
         obtain ⟨t488,A350,H⟩:=H
         replace H:(if (t486 == t488)=true then (some false) else ((laws_has.f k2 t472 ((rd_T76 t467 x8_2).f0)).bind fun t490=>((impl_IsPrimary.f k2 t463 t464 t470 ((rd_T76 t467 x8_2).f0)).bind fun t492=>(if (t490 != t492)=true then (some false) else (laws_FnPlaces.l0 k2 t467 t470 t472 t475 (wrap64 (x8_2+1)) t463 t464)))))=some r:=H
         have A35:=Aside0.mk A350
         clear A350
         by_cases c36:(t486 == t488)=true
         ·rw [if_pos c36] at H
          have c36b0:(t486 == t488)=true:=c36
          (try (have c36b1:decide (t486=t488)=true:=by simpa using c36))
          (try (have c36b2:(t486 == t488)=true:=by simpa using c36))
          clear c36
          exact absurd ((Option.some.inj H).trans hr_.out) (by decide)
         ·rw [if_neg c36] at H
          have c36b0:(t486 == t488)=false:=by simpa using c36
          (try (have c36b1:decide (t486=t488)=false:=by simpa using c36))
          (try (have c36b2:(t486 == t488)=false:=by simpa using c36))
          (try (have c36b3 : ¬ (t486=t488):=by simpa using c36))
          clear c36
          replace H:=Option.bind_eq_some_iff.mp H
          obtain ⟨t490,A370,H⟩:=H
          replace H:((impl_IsPrimary.f k2 t463 t464 t470 ((rd_T76 t467 x8_2).f0)).bind fun t492=>(if (t490 != t492)=true then (some false) else (laws_FnPlaces.l0 k2 t467 t470 t472 t475 (wrap64 (x8_2+1)) t463 t464)))=some r:=H
          have A37:=Aside0.mk A370
          clear A370
          replace H:=Option.bind_eq_some_iff.mp H
          obtain ⟨t492,A380,H⟩:=H
          replace H:(if (t490 != t492)=true then (some false) else (laws_FnPlaces.l0 k2 t467 t470 t472 t475 (wrap64 (x8_2+1)) t463 t464))=some r:=H
          have A38:=Aside0.mk A380
          clear A380
          by_cases c39:(t490 != t492)=true
          ·rw [if_pos c39] at H
           have c39b0:(t490 != t492)=true:=c39
           (try (have c39b1:decide (t490=t492)=false:=by simpa using c39))
           (try (have c39b2:(t490 == t492)=false:=by simpa using c39))
           (try (have c39b3 : ¬ (t490=t492):=by simpa using c39))
           clear c39
           exact absurd ((Option.some.inj H).trans hr_.out) (by decide)
          ·rw [if_neg c39] at H
           have c39b0:(t490 != t492)=false:=by simpa using c39
           (try (have c39b1:decide (t490=t492)=true:=by simpa using c39))
           (try (have c39b2:(t490 == t492)=true:=by simpa using c39))
           clear c39
           have H':=Aside0.mk H
           clear H
           try go_wp2
           have n0_:=Aside0.mk (Kd.R_drew HO_4.out)
           have n1_:=Aside0.mk (Kd.R_drew HO_6.out)
           have n2_:=Aside0.mk (Kd.R_drew HO_7.out)
           have n3_:=Aside0.mk (Kd.S_drew HO_472001.out)
           have n4_:=Aside0.mk (blk_drew BK471.out)
           have n5_:=Aside0.mk (below_drew1 HB.out)
           clear HO_4
           clear HO_6
           clear HO_7
           clear HO_472001
           clear BK471
           clear HB
           have HO_4:=n0_
           have HO_6:=n1_
           have HO_7:=n2_
           have HO_472001:=n3_
           have BK471:=n4_
           have HB:=n5_
           clear n0_ n1_ n2_ n3_ n4_ n5_
           have p485:0≤(x8_2:Int):=of_decide_eq_true (by first|(with_reducible assumption)|assumption)
           have q485:x8_2 < (t467.length:Int):=of_decide_eq_true (by first|(with_reducible assumption)|assumption)
           obtain ⟨ad485,e485,hx485_0,hx485_1,hx485_2⟩:=at_T76 (Kd.R_reads' HO_4.out).2.2 x8_2 p485 q485
           cases e485
           replace p485:=eq_true p485
           replace q485:=eq_true q485
           have p487:0≤(x8_2:Int):=of_decide_eq_true (by first|(with_reducible assumption)|assumption)
           have q487:x8_2 < (t467.length:Int):=of_decide_eq_true (by first|(with_reducible assumption)|assumption)
           obtain ⟨ad487,e487,hx487_0,hx487_1,hx487_2⟩:=at_T76 (Kd.R_reads' HO_4.out).2.2 x8_2 p487 q487
           obtain rfl:ad485=ad487:=(by injection e487)
           replace p487:=eq_true p487
           replace q487:=eq_true q487
           obtain ⟨Ao41,co41,eo41⟩:=Kd.R_slice HO_6.out
           (first|subst eo41|(injection eo41 with f1_ f2_ f3_;have f4_:=f1_.symm;have f5_:=f3_.symm;clear f1_ f2_ f3_;subst f4_;subst f5_))
           have p489:0≤(x8_2:Int):=of_decide_eq_true (by first|(with_reducible assumption)|assumption)
           have q489:x8_2 < (t467.length:Int):=of_decide_eq_true (by first|(with_reducible assumption)|assumption)
           obtain ⟨ad489,e489,hx489_0,hx489_1,hx489_2⟩:=at_T76 (Kd.R_reads' HO_4.out).2.2 x8_2 p489 q489
           obtain rfl:ad485=ad489:=(by injection e489)
           replace p489:=eq_true p489
           replace q489:=eq_true q489
           have p491:0≤(x8_2:Int):=of_decide_eq_true (by first|(with_reducible assumption)|assumption)
           have q491:x8_2 < (t467.length:Int):=of_decide_eq_true (by first|(with_reducible assumption)|assumption)
           obtain ⟨ad491,e491,hx491_0,hx491_1,hx491_2⟩:=at_T76 (Kd.R_reads' HO_4.out).2.2 x8_2 p491 q491
           obtain rfl:ad485=ad491:=(by injection e491)
           replace p491:=eq_true p491
           replace q491:=eq_true q491
           refine start_ (n:=33) (S:=fun w'=>w'.cell? ⟨gb471,0,none⟩=some (.int .i64 t463)∧w'.cell? ⟨gb471,1,none⟩=some (.slice Ao11 t464.length co11)∧w'.cell? (ad485.add ((x8_2).toNat * 3))=some (.int .i64 ((rd_T76 t467 x8_2).f0))∧w'.cell? ⟨(ad485.add ((x8_2).toNat * 3)).block,(ad485.add ((x8_2).toNat * 3)).off+1,none⟩=some (.int .i64 ((rd_T76 t467 x8_2).f1))∧w'.cell? ⟨(ad485.add ((x8_2).toNat * 3)).block,(ad485.add ((x8_2).toNat * 3)).off+2,none⟩=some (.int .i64 ((rd_T76 t467 x8_2).f2))∧w'.cell? (ad485.add ((x8_2).toNat * 3))=some (.int .i64 ((rd_T76 t467 x8_2).f0))∧w'.cell? ⟨(ad485.add ((x8_2).toNat * 3)).block,(ad485.add ((x8_2).toNat * 3)).off+1,none⟩=some (.int .i64 ((rd_T76 t467 x8_2).f1))∧w'.cell? ⟨(ad485.add ((x8_2).toNat * 3)).block,(ad485.add ((x8_2).toNat * 3)).off+2,none⟩=some (.int .i64 ((rd_T76 t467 x8_2).f2))∧w'.cell? (ad485.add ((x8_2).toNat * 3))=some (.int .i64 ((rd_T76 t467 x8_2).f0))∧w'.cell? ⟨(ad485.add ((x8_2).toNat * 3)).block,(ad485.add ((x8_2).toNat * 3)).off+1,none⟩=some (.int .i64 ((rd_T76 t467 x8_2).f1))∧w'.cell? ⟨(ad485.add ((x8_2).toNat * 3)).block,(ad485.add ((x8_2).toNat * 3)).off+2,none⟩=some (.int .i64 ((rd_T76 t467 x8_2).f2))∧w'.cell? (ad485.add ((x8_2).toNat * 3))=some (.int .i64 ((rd_T76 t467 x8_2).f0))∧w'.cell? ⟨(ad485.add ((x8_2).toNat * 3)).block,(ad485.add ((x8_2).toNat * 3)).off+1,none⟩=some (.int .i64 ((rd_T76 t467 x8_2).f1))∧w'.cell? ⟨(ad485.add ((x8_2).toNat * 3)).block,(ad485.add ((x8_2).toNat * 3)).off+2,none⟩=some (.int .i64 ((rd_T76 t467 x8_2).f2))) (ds:=[]) #[false,false,false,false,false,false,false,false,false,false,false,false,false,false,false,false,false,false,false,false,false,false,false,false,false,false,false,false,false,false,false,false,false] (by kernel_rfl) rfl rfl ⟨(blk_cell BK471.out 0).trans rfl,(blk_cell BK471.out 1).trans rfl,hx485_0,hx485_1,hx485_2,hx487_0,hx487_1,hx487_2,hx489_0,hx489_1,hx489_2,hx491_0,hx491_1,hx491_2⟩ (fun hHeld=>?_);refine with_tabW laws_FnPlaces.tab11 laws_FnPlaces.bits11 (fun HT_ HW_=>?_)
           generalize wr.drew=w40 at HO_4 HO_6 HO_7 HO_472001 BK471 HB hx485_0 hx485_1 hx485_2 hx487_0 hx487_1 hx487_2 hx489_0 hx489_1 hx489_2 hx491_0 hx491_1 hx491_2 hHeld ⊢
           refine pure_ (i:=0) (N:=some 47) (v:=?_) (a':=?_) #[true,false,false,false,false,false,false,false,false,false,false,false,false,false,false,false,false,false,false,false,false,false,false,false,false,false,false,false,false,false,false,false,false] rfl rfl (any_of HT_.out (by kernel_rfl)) (fun _ _ _ h=>h) (Or.inl ⟨by rfl,?_⟩) ?_ ?_
           rotate_left
           ·intro w'
            go_simp
            with_reducible rfl
           rotate_left
           ·simp only [Act.put,List.setIfInBounds_toArray,List.set_cons_zero,List.set_cons_succ,i64_w,i32_w]
            rfl
           refine pure_ (i:=1) (N:=some 48) (v:=?_) (a':=?_) #[true,true,false,false,false,false,false,false,false,false,false,false,false,false,false,false,false,false,false,false,false,false,false,false,false,false,false,false,false,false,false,false,false] rfl rfl (any_of HT_.out (by kernel_rfl)) (fun _ _ _ h=>h) (Or.inl ⟨by rfl,?_⟩) ?_ ?_
           rotate_left
           ·intro w'
            go_simp
            with_reducible rfl
           rotate_left
           ·simp only [Act.put,List.setIfInBounds_toArray,List.set_cons_zero,List.set_cons_succ,i64_w,i32_w]
            rfl
           refine pure_ (i:=2) (N:=some 49) (v:=?_) (a':=?_) #[true,true,true,false,false,false,false,false,false,false,false,false,false,false,false,false,false,false,false,false,false,false,false,false,false,false,false,false,false,false,false,false,false] rfl rfl (any_of HT_.out (by kernel_rfl)) (fun _ _ _ h=>h) (Or.inl ⟨by rfl,?_⟩) ?_ ?_
           rotate_left
           ·intro w'
            go_simp
            with_reducible rfl
           rotate_left
           ·simp only [Act.put,List.setIfInBounds_toArray,List.set_cons_zero,List.set_cons_succ,i64_w,i32_w]
            rfl
           refine pure_ (i:=3) (N:=some 50) (v:=?_) (a':=?_) #[true,true,true,true,false,false,false,false,false,false,false,false,false,false,false,false,false,false,false,false,false,false,false,false,false,false,false,false,false,false,false,false,false] rfl rfl (any_of HT_.out (by kernel_rfl)) (fun _ _ _ h=>h) (Or.inl ⟨by rfl,?_⟩) ?_ ?_
           rotate_left
           ·intro w'
            go_simp
            with_reducible rfl
           rotate_left
           ·simp only [Act.put,List.setIfInBounds_toArray,List.set_cons_zero,List.set_cons_succ,i64_w,i32_w]
            rfl
           refine pure_ (i:=4) (N:=some 51) (v:=?_) (a':=?_) #[true,true,true,true,true,false,false,false,false,false,false,false,false,false,false,false,false,false,false,false,false,false,false,false,false,false,false,false,false,false,false,false,false] rfl rfl (any_of HT_.out (by kernel_rfl)) (fun _ _ _ h=>h) (Or.inl ⟨by rfl,?_⟩) ?_ ?_
           rotate_left
           ·intro w'
            go_simp
            with_reducible rfl
           rotate_left
           ·simp only [Act.put,List.setIfInBounds_toArray,List.set_cons_zero,List.set_cons_succ,i64_w,i32_w]
            rfl
           refine pure_ (i:=7) (N:=some 54) (v:=?_) (a':=?_) #[true,true,true,true,true,false,false,true,false,false,false,false,false,false,false,false,false,false,false,false,false,false,false,false,false,false,false,false,false,false,false,false,false] rfl rfl (any_of HT_.out (by kernel_rfl)) (fun _ _ _ h=>h) (Or.inl ⟨by rfl,?_⟩) ?_ ?_
           rotate_left
           ·intro w'
            go_simp
            with_reducible rfl
           rotate_left
           ·simp only [Act.put,List.setIfInBounds_toArray,List.set_cons_zero,List.set_cons_succ,i64_w,i32_w]
            rfl
           refine pure_ (i:=8) (N:=some 55) (v:=?_) (a':=?_) #[true,true,true,true,true,false,false,true,true,false,false,false,false,false,false,false,false,false,false,false,false,false,false,false,false,false,false,false,false,false,false,false,false] rfl rfl (any_of HT_.out (by kernel_rfl)) (fun _ _ _ h=>h) (Or.inl ⟨by rfl,?_⟩) ?_ ?_
           rotate_left
           ·intro w'
            go_simp
            with_reducible rfl
           rotate_left
           ·simp only [Act.put,List.setIfInBounds_toArray,List.set_cons_zero,List.set_cons_succ,i64_w,i32_w]
            rfl
           refine pure_ (i:=9) (N:=some 56) (v:=?_) (a':=?_) #[true,true,true,true,true,false,false,true,true,true,false,false,false,false,false,false,false,false,false,false,false,false,false,false,false,false,false,false,false,false,false,false,false] rfl rfl (any_of HT_.out (by kernel_rfl)) (fun _ _ _ h=>h) (Or.inl ⟨by rfl,?_⟩) ?_ ?_
           rotate_left
           ·intro w'
            go_simp
            with_reducible rfl
           rotate_left
           ·simp only [Act.put,List.setIfInBounds_toArray,List.set_cons_zero,List.set_cons_succ,i64_w,i32_w]
            rfl
           refine pure_ (i:=10) (N:=some 57) (v:=?_) (a':=?_) #[true,true,true,true,true,false,false,true,true,true,true,false,false,false,false,false,false,false,false,false,false,false,false,false,false,false,false,false,false,false,false,false,false] rfl rfl (any_of HT_.out (by kernel_rfl)) (fun _ _ _ h=>h) (Or.inl ⟨by rfl,?_⟩) ?_ ?_
           rotate_left
           ·intro w'
            go_simp
            with_reducible rfl
           rotate_left
           ·simp only [Act.put,List.setIfInBounds_toArray,List.set_cons_zero,List.set_cons_succ,i64_w,i32_w]
            rfl
           refine pure_ (i:=11) (N:=some 58) (v:=?_) (a':=?_) #[true,true,true,true,true,false,false,true,true,true,true,true,false,false,false,false,false,false,false,false,false,false,false,false,false,false,false,false,false,false,false,false,false] rfl rfl (any_of HT_.out (by kernel_rfl)) (fun _ _ _ h=>h) (Or.inl ⟨by rfl,?_⟩) ?_ ?_
           rotate_left
           ·intro w'
            go_simp
            with_reducible rfl
           rotate_left
           ·simp only [Act.put,List.setIfInBounds_toArray,List.set_cons_zero,List.set_cons_succ,i64_w,i32_w]
            rfl
           refine take_ (i:=5) (N:=some 52) (v:=?_) (a':=?_) #[true,true,true,true,true,true,false,true,true,true,true,true,false,false,false,false,false,false,false,false,false,false,false,false,false,false,false,false,false,false,false,false,false] rfl rfl (take_ofW HT_.out HW_.out (by kernel_rfl)) (fun _ _ _ h=>h) (Or.inl ⟨by rfl,?_⟩) hHeld ?_ ?_
           rotate_left
           ·rintro w' ⟨s0,s1,s2,s3,s4,s5,s6,s7,s8,s9,s10,s11,s12,s13⟩
            go_simp
            with_reducible rfl
           rotate_left
           ·simp only [Act.put,List.setIfInBounds_toArray,List.set_cons_zero,List.set_cons_succ,i64_w,i32_w]
            rfl
           refine take_ (i:=12) (N:=some 59) (v:=?_) (a':=?_) #[true,true,true,true,true,true,false,true,true,true,true,true,true,false,false,false,false,false,false,false,false,false,false,false,false,false,false,false,false,false,false,false,false] rfl rfl (take_ofW HT_.out HW_.out (by kernel_rfl)) (fun _ _ _ h=>h) (Or.inl ⟨by rfl,?_⟩) hHeld ?_ ?_
           rotate_left
           ·rintro w' ⟨s0,s1,s2,s3,s4,s5,s6,s7,s8,s9,s10,s11,s12,s13⟩
            go_simp
            with_reducible rfl
           rotate_left
           ·simp only [Act.put,List.setIfInBounds_toArray,List.set_cons_zero,List.set_cons_succ,i64_w,i32_w]
            rfl
           refine one_ (i:=6) (N:=some 53) #[true,true,true,true,true,true,true,true,true,true,true,true,true,false,false,false,false,false,false,false,false,false,false,false,false,false,false,false,false,false,false,false,false] rfl rfl (one_of HT_.out (by kernel_rfl)) (by decide) (fun K hK=>?_)
           refine goes_ Try.func51 (by kernel_rfl) rfl #[.slice Ao41 t472.length co41,.int .i64 ((rd_T76 t467 x8_2).f0)] (by rfl) rfl rfl (by (try simp only [List.map_toArray,List.map_cons,List.map_nil]);first|done|rfl|(simp only [List.length_drop,List.length_take];rfl)) ?_
           with_reducible refine (laws_has.calls k2 _ _ t472 ((rd_T76 t467 x8_2).f0) t486 _ ?side1 ?side2 A34.out).mono ?_
           (case side1=>repeat (first|exact (Kd.R_reads' HO_6.out).2.2|(with_reducible refine Kd.C_alloc ?_ _)|(with_reducible refine Kd.C_drewN ?_ _)|(with_reducible refine Kd.C_drew ?_)))
           (case side2=>exact (Kd.R_reads' HO_6.out).2.1)
           rintro e w' ⟨rfl,⟨nd,rfl⟩⟩
           refine ⟨_,rfl,?_⟩
           obtain ⟨Ao42,co42,eo42⟩:=Kd.R_slice HO_7.out
           (first|subst eo42|(injection eo42 with f1_ f2_ f3_;have f4_:=f1_.symm;have f5_:=f3_.symm;clear f1_ f2_ f3_;subst f4_;subst f5_))
           refine hK.out _ _ ⟨(blk_cell BK471.out 0).trans rfl,(blk_cell BK471.out 1).trans rfl,hHeld.2.2.1,hHeld.2.2.2.1,hHeld.2.2.2.2.1,hHeld.2.2.2.2.2.1,hHeld.2.2.2.2.2.2.1,hHeld.2.2.2.2.2.2.2.1,hHeld.2.2.2.2.2.2.2.2.1,hHeld.2.2.2.2.2.2.2.2.2.1,hHeld.2.2.2.2.2.2.2.2.2.2.1,hHeld.2.2.2.2.2.2.2.2.2.2.2.1,hHeld.2.2.2.2.2.2.2.2.2.2.2.2.1,hHeld.2.2.2.2.2.2.2.2.2.2.2.2.2⟩ (fun hHeld=>?_)
           clear hK K
           refine norm_ (a':=?_) ?_ ?_
           rotate_left
           ·show Act.put _ (some 53) _=_
            simp only [Act.put,List.setIfInBounds_toArray,List.set_cons_zero,List.set_cons_succ,i64_w,i32_w]
            rfl
           refine one_ (i:=13) (N:=some 60) #[true,true,true,true,true,true,true,true,true,true,true,true,true,true,false,false,false,false,false,false,false,false,false,false,false,false,false,false,false,false,false,false,false] rfl rfl (one_of HT_.out (by kernel_rfl)) (by decide) (fun K hK=>?_)
           refine goes_ Try.func51 (by kernel_rfl) rfl #[.slice Ao42 t475.length co42,.int .i64 ((rd_T76 t467 x8_2).f0)] (by rfl) rfl rfl (by (try simp only [List.map_toArray,List.map_cons,List.map_nil]);first|done|rfl|(simp only [List.length_drop,List.length_take];rfl)) ?_
           with_reducible refine (laws_has.calls k2 _ _ t475 ((rd_T76 t467 x8_2).f0) t488 _ ?side1 ?side2 A35.out).mono ?_
           (case side1=>repeat (first|exact (Kd.R_reads' HO_7.out).2.2|(with_reducible refine Kd.C_alloc ?_ _)|(with_reducible refine Kd.C_drewN ?_ _)|(with_reducible refine Kd.C_drew ?_)))
           (case side2=>exact (Kd.R_reads' HO_7.out).2.1)
           rintro e w' ⟨rfl,⟨nd,rfl⟩⟩
           refine ⟨_,rfl,?_⟩
           refine hK.out _ _ ⟨(blk_cell BK471.out 0).trans rfl,(blk_cell BK471.out 1).trans rfl,hHeld.2.2.1,hHeld.2.2.2.1,hHeld.2.2.2.2.1,hHeld.2.2.2.2.2.1,hHeld.2.2.2.2.2.2.1,hHeld.2.2.2.2.2.2.2.1,hHeld.2.2.2.2.2.2.2.2.1,hHeld.2.2.2.2.2.2.2.2.2.1,hHeld.2.2.2.2.2.2.2.2.2.2.1,hHeld.2.2.2.2.2.2.2.2.2.2.2.1,hHeld.2.2.2.2.2.2.2.2.2.2.2.2.1,hHeld.2.2.2.2.2.2.2.2.2.2.2.2.2⟩ (fun hHeld=>?_)
           clear hK K
           refine norm_ (a':=?_) ?_ ?_
           rotate_left
           ·show Act.put _ (some 60) _=_
            simp only [Act.put,List.setIfInBounds_toArray,List.set_cons_zero,List.set_cons_succ,i64_w,i32_w]
            rfl
           refine pure_ (i:=14) (N:=some 61) (v:=?_) (a':=?_) #[true,true,true,true,true,true,true,true,true,true,true,true,true,true,true,false,false,false,false,false,false,false,false,false,false,false,false,false,false,false,false,false,false] rfl rfl (any_of HT_.out (by kernel_rfl)) (fun _ _ _ h=>h) (Or.inl ⟨by rfl,?_⟩) ?_ ?_
           rotate_left
           ·intro w'
            go_simp
            with_reducible rfl
           rotate_left
           ·simp only [Act.put,List.setIfInBounds_toArray,List.set_cons_zero,List.set_cons_succ,i64_w,i32_w]
            rfl
           refine pure_ (i:=15) (N:=some 62) (v:=?_) (a':=?_) #[true,true,true,true,true,true,true,true,true,true,true,true,true,true,true,true,false,false,false,false,false,false,false,false,false,false,false,false,false,false,false,false,false] rfl rfl (any_of HT_.out (by kernel_rfl)) (fun _ _ _ h=>h) (Or.inl ⟨by rfl,?_⟩) ?_ ?_
           rotate_left
           ·intro w'
            go_simp
            with_reducible rfl
           rotate_left
           ·simp only [Act.put,List.setIfInBounds_toArray,List.set_cons_zero,List.set_cons_succ,i64_w,i32_w]
            rfl
           refine pure_ (i:=16) (N:=some 63) (v:=?_) (a':=?_) #[true,true,true,true,true,true,true,true,true,true,true,true,true,true,true,true,true,false,false,false,false,false,false,false,false,false,false,false,false,false,false,false,false] rfl rfl (any_of HT_.out (by kernel_rfl)) (fun _ _ _ h=>h) (Or.inl ⟨by rfl,?_⟩) ?_ ?_
           rotate_left
           ·intro w'
            go_simp
            with_reducible rfl
           rotate_left
           ·simp only [Act.put,List.setIfInBounds_toArray,List.set_cons_zero,List.set_cons_succ,i64_w,i32_w]
            rfl
           refine pure_ (i:=17) (N:=some 64) (v:=?_) (a':=?_) #[true,true,true,true,true,true,true,true,true,true,true,true,true,true,true,true,true,true,false,false,false,false,false,false,false,false,false,false,false,false,false,false,false] rfl rfl (any_of HT_.out (by kernel_rfl)) (fun _ _ _ h=>h) (Or.inl ⟨by rfl,?_⟩) ?_ ?_
           rotate_left
           ·intro w'
            go_simp
            with_reducible rfl
           rotate_left
           ·simp only [Act.put,List.setIfInBounds_toArray,List.set_cons_zero,List.set_cons_succ,i64_w,i32_w]
            rfl
           refine pure_ (i:=18) (N:=some 65) (v:=?_) (a':=?_) #[true,true,true,true,true,true,true,true,true,true,true,true,true,true,true,true,true,true,true,false,false,false,false,false,false,false,false,false,false,false,false,false,false] rfl rfl (any_of HT_.out (by kernel_rfl)) (fun _ _ _ h=>h) (Or.inl ⟨by rfl,?_⟩) ?_ ?_
           rotate_left
           ·intro w'
            go_simp
            with_reducible rfl
           rotate_left
           ·simp only [Act.put,List.setIfInBounds_toArray,List.set_cons_zero,List.set_cons_succ,i64_w,i32_w]
            rfl
           refine pure_ (i:=19) (N:=some 66) (v:=?_) (a':=?_) #[true,true,true,true,true,true,true,true,true,true,true,true,true,true,true,true,true,true,true,true,false,false,false,false,false,false,false,false,false,false,false,false,false] rfl rfl (any_of HT_.out (by kernel_rfl)) (fun _ _ _ h=>h) (Or.inl ⟨by rfl,?_⟩) ?_ ?_
           rotate_left
           ·intro w'
            go_simp
            with_reducible rfl
           rotate_left
           ·simp only [Act.put,List.setIfInBounds_toArray,List.set_cons_zero,List.set_cons_succ,i64_w,i32_w]
            rfl
           refine pure_ (i:=20) (N:=some 67) (v:=?_) (a':=?_) #[true,true,true,true,true,true,true,true,true,true,true,true,true,true,true,true,true,true,true,true,true,false,false,false,false,false,false,false,false,false,false,false,false] rfl rfl (any_of HT_.out (by kernel_rfl)) (fun _ _ _ h=>h) (Or.inl ⟨by rfl,?_⟩) ?_ ?_
           rotate_left
           ·intro w'
            go_simp
            with_reducible rfl
           rotate_left
           ·simp only [Act.put,List.setIfInBounds_toArray,List.set_cons_zero,List.set_cons_succ,i64_w,i32_w]
            rfl
           refine pure_ (i:=24) (N:=some 71) (v:=?_) (a':=?_) #[true,true,true,true,true,true,true,true,true,true,true,true,true,true,true,true,true,true,true,true,true,false,false,false,true,false,false,false,false,false,false,false,false] rfl rfl (any_of HT_.out (by kernel_rfl)) (fun _ _ _ h=>h) (Or.inl ⟨by rfl,?_⟩) ?_ ?_
           rotate_left
           ·intro w'
            go_simp
            with_reducible rfl
           rotate_left
           ·simp only [Act.put,List.setIfInBounds_toArray,List.set_cons_zero,List.set_cons_succ,i64_w,i32_w]
            rfl
           refine pure_ (i:=25) (N:=some 72) (v:=?_) (a':=?_) #[true,true,true,true,true,true,true,true,true,true,true,true,true,true,true,true,true,true,true,true,true,false,false,false,true,true,false,false,false,false,false,false,false] rfl rfl (any_of HT_.out (by kernel_rfl)) (fun _ _ _ h=>h) (Or.inl ⟨by rfl,?_⟩) ?_ ?_
           rotate_left
           ·intro w'
            go_simp
            with_reducible rfl
           rotate_left
           ·simp only [Act.put,List.setIfInBounds_toArray,List.set_cons_zero,List.set_cons_succ,i64_w,i32_w]
            rfl
           refine pure_ (i:=26) (N:=some 73) (v:=?_) (a':=?_) #[true,true,true,true,true,true,true,true,true,true,true,true,true,true,true,true,true,true,true,true,true,false,false,false,true,true,true,false,false,false,false,false,false] rfl rfl (any_of HT_.out (by kernel_rfl)) (fun _ _ _ h=>h) (Or.inl ⟨by rfl,?_⟩) ?_ ?_
           rotate_left
           ·intro w'
            go_simp
            with_reducible rfl
           rotate_left
           ·simp only [Act.put,List.setIfInBounds_toArray,List.set_cons_zero,List.set_cons_succ,i64_w,i32_w]
            rfl
           refine pure_ (i:=27) (N:=some 74) (v:=?_) (a':=?_) #[true,true,true,true,true,true,true,true,true,true,true,true,true,true,true,true,true,true,true,true,true,false,false,false,true,true,true,true,false,false,false,false,false] rfl rfl (any_of HT_.out (by kernel_rfl)) (fun _ _ _ h=>h) (Or.inl ⟨by rfl,?_⟩) ?_ ?_
           rotate_left
           ·intro w'
            go_simp
            with_reducible rfl
           rotate_left
           ·simp only [Act.put,List.setIfInBounds_toArray,List.set_cons_zero,List.set_cons_succ,i64_w,i32_w]
            rfl
           refine pure_ (i:=28) (N:=some 75) (v:=?_) (a':=?_) #[true,true,true,true,true,true,true,true,true,true,true,true,true,true,true,true,true,true,true,true,true,false,false,false,true,true,true,true,true,false,false,false,false] rfl rfl (any_of HT_.out (by kernel_rfl)) (fun _ _ _ h=>h) (Or.inl ⟨by rfl,?_⟩) ?_ ?_
           rotate_left
           ·intro w'
            go_simp
            with_reducible rfl
           rotate_left
           ·simp only [Act.put,List.setIfInBounds_toArray,List.set_cons_zero,List.set_cons_succ,i64_w,i32_w]
            rfl
           refine take_ (i:=21) (N:=some 68) (v:=?_) (a':=?_) #[true,true,true,true,true,true,true,true,true,true,true,true,true,true,true,true,true,true,true,true,true,true,false,false,true,true,true,true,true,false,false,false,false] rfl rfl (take_ofW HT_.out HW_.out (by kernel_rfl)) (fun _ _ _ h=>h) (Or.inl ⟨by rfl,?_⟩) hHeld ?_ ?_
           rotate_left
           ·rintro w' ⟨s0,s1,s2,s3,s4,s5,s6,s7,s8,s9,s10,s11,s12,s13⟩
            go_simp
            with_reducible rfl
           rotate_left
           ·simp only [Act.put,List.setIfInBounds_toArray,List.set_cons_zero,List.set_cons_succ,i64_w,i32_w]
            rfl
           refine take_ (i:=23) (N:=some 70) (v:=?_) (a':=?_) #[true,true,true,true,true,true,true,true,true,true,true,true,true,true,true,true,true,true,true,true,true,true,false,true,true,true,true,true,true,false,false,false,false] rfl rfl (take_ofW HT_.out HW_.out (by kernel_rfl)) (fun _ _ _ h=>h) (Or.inl ⟨by rfl,?_⟩) hHeld ?_ ?_
           rotate_left
           ·rintro w' ⟨s0,s1,s2,s3,s4,s5,s6,s7,s8,s9,s10,s11,s12,s13⟩
            go_simp
            with_reducible rfl
           rotate_left
           ·simp only [Act.put,List.setIfInBounds_toArray,List.set_cons_zero,List.set_cons_succ,i64_w,i32_w]
            rfl
           refine take_ (i:=29) (N:=some 76) (v:=?_) (a':=?_) #[true,true,true,true,true,true,true,true,true,true,true,true,true,true,true,true,true,true,true,true,true,true,false,true,true,true,true,true,true,true,false,false,false] rfl rfl (take_ofW HT_.out HW_.out (by kernel_rfl)) (fun _ _ _ h=>h) (Or.inl ⟨by rfl,?_⟩) hHeld ?_ ?_
           rotate_left
           ·rintro w' ⟨s0,s1,s2,s3,s4,s5,s6,s7,s8,s9,s10,s11,s12,s13⟩
            go_simp
            with_reducible rfl
           rotate_left
           ·simp only [Act.put,List.setIfInBounds_toArray,List.set_cons_zero,List.set_cons_succ,i64_w,i32_w]
            rfl
           refine one_ (i:=22) (N:=some 69) #[true,true,true,true,true,true,true,true,true,true,true,true,true,true,true,true,true,true,true,true,true,true,true,true,true,true,true,true,true,true,false,false,false] rfl rfl (one_of HT_.out (by kernel_rfl)) (by decide) (fun K hK=>?_)
           refine goes_ Try.func51 (by kernel_rfl) rfl #[.slice Ao41 t472.length co41,.int .i64 ((rd_T76 t467 x8_2).f0)] (by rfl) rfl rfl (by (try simp only [List.map_toArray,List.map_cons,List.map_nil]);first|done|rfl|(simp only [List.length_drop,List.length_take];rfl)) ?_
           with_reducible refine (laws_has.calls k2 _ _ t472 ((rd_T76 t467 x8_2).f0) t490 _ ?side1 ?side2 A37.out).mono ?_
           (case side1=>repeat (first|exact (Kd.R_reads' HO_6.out).2.2|(with_reducible refine Kd.C_alloc ?_ _)|(with_reducible refine Kd.C_drewN ?_ _)|(with_reducible refine Kd.C_drew ?_)))
           (case side2=>exact (Kd.R_reads' HO_6.out).2.1)
           rintro e w' ⟨rfl,⟨nd,rfl⟩⟩
           refine ⟨_,rfl,?_⟩
           refine hK.out _ _ ⟨(blk_cell BK471.out 0).trans rfl,(blk_cell BK471.out 1).trans rfl,hHeld.2.2.1,hHeld.2.2.2.1,hHeld.2.2.2.2.1,hHeld.2.2.2.2.2.1,hHeld.2.2.2.2.2.2.1,hHeld.2.2.2.2.2.2.2.1,hHeld.2.2.2.2.2.2.2.2.1,hHeld.2.2.2.2.2.2.2.2.2.1,hHeld.2.2.2.2.2.2.2.2.2.2.1,hHeld.2.2.2.2.2.2.2.2.2.2.2.1,hHeld.2.2.2.2.2.2.2.2.2.2.2.2.1,hHeld.2.2.2.2.2.2.2.2.2.2.2.2.2⟩ (fun hHeld=>?_)
           clear hK K
           refine norm_ (a':=?_) ?_ ?_
           rotate_left
           ·show Act.put _ (some 69) _=_
            simp only [Act.put,List.setIfInBounds_toArray,List.set_cons_zero,List.set_cons_succ,i64_w,i32_w]
            rfl
           refine one_ (i:=30) (N:=some 77) #[true,true,true,true,true,true,true,true,true,true,true,true,true,true,true,true,true,true,true,true,true,true,true,true,true,true,true,true,true,true,true,false,false] rfl rfl (one_of HT_.out (by kernel_rfl)) (by decide) (fun K hK=>?_)
           refine goes_ Try.func26 (by kernel_rfl) rfl #[.agg #[.int .i64 t463,.slice Ao11 t464.length co11],.string t470,.int .i64 ((rd_T76 t467 x8_2).f0)] (by rfl) rfl rfl (by (try simp only [List.map_toArray,List.map_cons,List.map_nil]);first|done|rfl|(simp only [List.length_drop,List.length_take];rfl)) ?_
           with_reducible refine (impl_IsPrimary.calls k2 t463 _ _ t464 t470 ((rd_T76 t467 x8_2).f0) t492 _ ?side1 ?side2 A38.out).mono ?_
           (case side1=>repeat (first|exact (Kd.S_reads' HO_472001.out).2.2|(with_reducible refine Kd.C_alloc ?_ _)|(with_reducible refine Kd.C_drewN ?_ _)|(with_reducible refine Kd.C_drew ?_)))
           (case side2=>exact (Kd.S_reads' HO_472001.out).2.1)
           rintro e w43 ⟨rfl,hb⟩
           have HS2_:=(hb.cell (World.block_lt_of_cell? _ _ (hHeld.2.2.1))).trans (hHeld.2.2.1)
           have HS3_:=(hb.cell (World.block_lt_of_cell? _ _ (hHeld.2.2.2.1))).trans (hHeld.2.2.2.1)
           have HS4_:=(hb.cell (World.block_lt_of_cell? _ _ (hHeld.2.2.2.2.1))).trans (hHeld.2.2.2.2.1)
           have HS5_:=(hb.cell (World.block_lt_of_cell? _ _ (hHeld.2.2.2.2.2.1))).trans (hHeld.2.2.2.2.2.1)
           have HS6_:=(hb.cell (World.block_lt_of_cell? _ _ (hHeld.2.2.2.2.2.2.1))).trans (hHeld.2.2.2.2.2.2.1)
           have HS7_:=(hb.cell (World.block_lt_of_cell? _ _ (hHeld.2.2.2.2.2.2.2.1))).trans (hHeld.2.2.2.2.2.2.2.1)
           have HS8_:=(hb.cell (World.block_lt_of_cell? _ _ (hHeld.2.2.2.2.2.2.2.2.1))).trans (hHeld.2.2.2.2.2.2.2.2.1)
           have HS9_:=(hb.cell (World.block_lt_of_cell? _ _ (hHeld.2.2.2.2.2.2.2.2.2.1))).trans (hHeld.2.2.2.2.2.2.2.2.2.1)
           have HS10_:=(hb.cell (World.block_lt_of_cell? _ _ (hHeld.2.2.2.2.2.2.2.2.2.2.1))).trans (hHeld.2.2.2.2.2.2.2.2.2.2.1)
           have HS11_:=(hb.cell (World.block_lt_of_cell? _ _ (hHeld.2.2.2.2.2.2.2.2.2.2.2.1))).trans (hHeld.2.2.2.2.2.2.2.2.2.2.2.1)
           have HS12_:=(hb.cell (World.block_lt_of_cell? _ _ (hHeld.2.2.2.2.2.2.2.2.2.2.2.2.1))).trans (hHeld.2.2.2.2.2.2.2.2.2.2.2.2.1)
           have HS13_:=(hb.cell (World.block_lt_of_cell? _ _ (hHeld.2.2.2.2.2.2.2.2.2.2.2.2.2))).trans (hHeld.2.2.2.2.2.2.2.2.2.2.2.2.2)
           refine ⟨_,rfl,?_⟩
           have n0_:=Aside0.mk (Kd.R_below (by (with_reducible repeat (first|apply Kd.R_alloc|apply Kd.R_drewN|apply Kd.R_drew));exact HO_4.out) hb)
           have n1_:=Aside0.mk (Kd.R_below (by (with_reducible repeat (first|apply Kd.R_alloc|apply Kd.R_drewN|apply Kd.R_drew));exact HO_6.out) hb)
           have n2_:=Aside0.mk (Kd.R_below (by (with_reducible repeat (first|apply Kd.R_alloc|apply Kd.R_drewN|apply Kd.R_drew));exact HO_7.out) hb)
           have n3_:=Aside0.mk (Kd.S_below (by (with_reducible repeat (first|apply Kd.S_alloc|apply Kd.S_drewN|apply Kd.S_drew));exact HO_472001.out) hb)
           have n4_:=Aside0.mk (blk_below (g:=gb471) (o:=.cells #[.int .i64 t463,.slice Ao11 t464.length co11] 43 (0,0)) (by (with_reducible repeat (first|refine blk_drewN ?_ _|refine blk_drew ?_|refine blk_alloc ?_ _));exact BK471.out) hb)
           have n5_:=Aside0.mk (below_step (by repeat (first|(with_reducible first|exact HB.out|apply below_alloc|apply pw_below_drewN|apply below_drew1|refine below_set ?_ GE471.out)|exact HB.out)) hb)
           clear HO_4
           clear HO_6
           clear HO_7
           clear HO_472001
           clear BK471
           clear HB
           have HO_4:=n0_
           have HO_6:=n1_
           have HO_7:=n2_
           have HO_472001:=n3_
           have BK471:=n4_
           have HB:=n5_
           clear n0_ n1_ n2_ n3_ n4_ n5_
           (try clear hb)
           (try clear hb2)
           (try clear hk)
           (try clear hi)
           refine hK.out _ _ ⟨(blk_cell BK471.out 0).trans rfl,(blk_cell BK471.out 1).trans rfl,HS2_,HS3_,HS4_,HS5_,HS6_,HS7_,HS8_,HS9_,HS10_,HS11_,HS12_,HS13_⟩ (fun hHeld=>?_)
           clear hK K
           refine norm_ (a':=?_) ?_ ?_
           rotate_left
           ·show Act.put _ (some 77) _=_
            simp only [Act.put,List.setIfInBounds_toArray,List.set_cons_zero,List.set_cons_succ,i64_w,i32_w]
            rfl
           refine pure_ (i:=31) (N:=some 78) (v:=?_) (a':=?_) #[true,true,true,true,true,true,true,true,true,true,true,true,true,true,true,true,true,true,true,true,true,true,true,true,true,true,true,true,true,true,true,true,false] rfl rfl (any_of HT_.out (by kernel_rfl)) (fun _ _ _ h=>h) (Or.inl ⟨by rfl,?_⟩) ?_ ?_
           rotate_left
           ·intro w'
            go_simp
            with_reducible rfl
           rotate_left
           ·simp only [Act.put,List.setIfInBounds_toArray,List.set_cons_zero,List.set_cons_succ,i64_w,i32_w]
            rfl
           refine pure_ (i:=32) (N:=some 79) (v:=?_) (a':=?_) #[true,true,true,true,true,true,true,true,true,true,true,true,true,true,true,true,true,true,true,true,true,true,true,true,true,true,true,true,true,true,true,true,true] rfl rfl (any_of HT_.out (by kernel_rfl)) (fun _ _ _ h=>h) (Or.inl ⟨by rfl,?_⟩) ?_ ?_
           rotate_left
           ·intro w'
            go_simp
            with_reducible rfl
           rotate_left
           ·simp only [Act.put,List.setIfInBounds_toArray,List.set_cons_zero,List.set_cons_succ,i64_w,i32_w]
            rfl
           refine done_ (done_of HT_.out (by kernel_rfl)) ?_
           try go_wp2
           go_roundg k2
           case measure=>have:=HJ6.out;have:=HK2.out;omega
           case rel=>exact ⟨(wrap64 (x8_2+1)),(by first|rfl|(simp;done)|(simp [*];done)),H',⟨by have:=HJ6.out;have:=HK2.out;omega⟩,⟨by (with_reducible repeat (first|apply Kd.R_alloc|apply Kd.R_drewN|apply Kd.R_drew));exact HO_4.out⟩,⟨by (with_reducible repeat (first|apply Kd.R_alloc|apply Kd.R_drewN|apply Kd.R_drew));exact HO_6.out⟩,⟨by (with_reducible repeat (first|apply Kd.R_alloc|apply Kd.R_drewN|apply Kd.R_drew));exact HO_7.out⟩,⟨by (with_reducible repeat (first|apply Kd.S_alloc|apply Kd.S_drewN|apply Kd.S_drew));exact HO_472001.out⟩,⟨by (with_reducible repeat (first|refine blk_drewN ?_ _|refine blk_drew ?_|refine blk_alloc ?_ _));exact BK471.out⟩,⟨by repeat (first|(with_reducible first|exact HB.out|apply below_alloc|apply pw_below_drewN|apply below_drew1|refine below_set ?_ GE471.out)|exact HB.out)⟩⟩
        ·rw [if_neg c33] at H
         exact absurd H (by simp)
       ·rw [if_neg c32] at H
        have c32b0:decide (x8_2 < (t467.length:Int))=false:=decide_eq_false c32
        clear c32
        replace H:=Option.bind_eq_some_iff.mp H
        obtain ⟨t484,A440,H⟩:=H
        replace H:(if t484=true then (if (wrap64 ((t472.length:Int)+(t475.length:Int)))=(t467.length:Int) then (some ((t472.length:Int) == t463)) else (some false)) else (some true))=some r:=H
        have A44:=Aside0.mk A440
        clear A440
        by_cases c45:t484=true
        ·subst c45
         have H1:(if (wrap64 ((t472.length:Int)+(t475.length:Int)))=(t467.length:Int) then (some ((t472.length:Int) == t463)) else (some false))=some r:=by rw [if_pos rfl] at H;exact H
         clear H
         have H:=H1
         clear H1
         by_cases c46:(wrap64 ((t472.length:Int)+(t475.length:Int)))=(t467.length:Int)
         ·rw [if_pos c46] at H
          have c46b0:((wrap64 ((t472.length:Int)+(t475.length:Int))) == (t467.length:Int))=true:=beq_iff_eq.mpr c46
          have c46b1:((wrap64 ((t472.length:Int)+(t475.length:Int))) != (t467.length:Int))=false:=bne_eq_false_iff_eq.mpr c46
          clear c46
          obtain rfl:=Option.some.inj H
          have hcz47_0:wr.cell? ⟨gb471,0,none⟩=some (.int .i64 t463):=(blk_cell BK471.out 0).trans rfl
          have hcz47_1:wr.cell? ⟨gb471,1,none⟩=some (.slice Ao11 t464.length co11):=(blk_cell BK471.out 1).trans rfl
          have hfz47_0:=blk_frozen BK471.out 0
          have hfz47_1:=blk_frozen BK471.out 1
          go_wp2_with (first|((with_reducible refine gate_callee (f:=43) rfl ?_);refine goesL_ (some 82) rfl rfl Try.func43 (by kernel_rfl) rfl #[.agg #[.int .i64 t463,.slice Ao11 t464.length co11],.slice Ao14 t467.length co14] rfl (by (try simp only [List.map_toArray,List.map_cons,List.map_nil]);first|done|rfl|(simp only [List.length_drop,List.length_take];rfl)) ?_;(with_reducible refine (spec_RingOk.calls k2 t463 _ _ t464 _ _ t467 true _ ?side1 ?side2 ?side3 ?side4 A44.out).mono ?_);(case side1=>repeat (first|exact (Kd.S_reads' HO_472001.out).2.2|(with_reducible refine Kd.C_alloc ?_ _)|(with_reducible refine Kd.C_drewN ?_ _)|(with_reducible refine Kd.C_drew ?_)));(case side2=>exact (Kd.S_reads' HO_472001.out).2.1);(case side3=>repeat (first|exact (Kd.R_reads' HO_4.out).2.2|(with_reducible refine Kd.C_alloc ?_ _)|(with_reducible refine Kd.C_drewN ?_ _)|(with_reducible refine Kd.C_drew ?_)));(case side4=>exact (Kd.R_reads' HO_4.out).2.1);rintro e w48 ⟨rfl,hb⟩;refine ⟨_,rfl,?_⟩;have n0_:=Aside0.mk (Kd.R_below (by (with_reducible repeat (first|apply Kd.R_alloc|apply Kd.R_drewN|apply Kd.R_drew));exact HO_4.out) hb);have n1_:=Aside0.mk (Kd.R_below (by (with_reducible repeat (first|apply Kd.R_alloc|apply Kd.R_drewN|apply Kd.R_drew));exact HO_6.out) hb);have n2_:=Aside0.mk (Kd.R_below (by (with_reducible repeat (first|apply Kd.R_alloc|apply Kd.R_drewN|apply Kd.R_drew));exact HO_7.out) hb);have n3_:=Aside0.mk (Kd.S_below (by (with_reducible repeat (first|apply Kd.S_alloc|apply Kd.S_drewN|apply Kd.S_drew));exact HO_472001.out) hb);have n4_:=Aside0.mk (blk_below (g:=gb471) (o:=.cells #[.int .i64 t463,.slice Ao11 t464.length co11] 43 (0,0)) (by (with_reducible repeat (first|refine blk_drewN ?_ _|refine blk_drew ?_|refine blk_alloc ?_ _));exact BK471.out) hb);have n5_:=Aside0.mk (below_step (by repeat (first|(with_reducible first|exact HB.out|apply below_alloc|apply pw_below_drewN|apply below_drew1|refine below_set ?_ GE471.out)|exact HB.out)) hb);clear HO_4;clear HO_6;clear HO_7;clear HO_472001;clear BK471;clear HB;have HO_4:=n0_;have HO_6:=n1_;have HO_7:=n2_;have HO_472001:=n3_;have BK471:=n4_;have HB:=n5_;clear n0_ n1_ n2_ n3_ n4_ n5_;(try clear hb);(try clear hb2);(try clear hk);(try clear hi);obtain ⟨Ao49,co49,eo49⟩:=Kd.R_slice HO_6.out;subst eo49;obtain ⟨Ao50,co50,eo50⟩:=Kd.R_slice HO_7.out;subst eo50;have hcz51_0:w48.cell? ⟨gb471,0,none⟩=some (.int .i64 t463):=(blk_cell BK471.out 0).trans rfl;have hcz51_1:w48.cell? ⟨gb471,1,none⟩=some (.slice Ao11 t464.length co11):=(blk_cell BK471.out 1).trans rfl;have hfz51_0:=blk_frozen BK471.out 0;have hfz51_1:=blk_frozen BK471.out 1))
          go_ret
          exact ⟨by first|rfl|(simp [errW_none,errW_some] <;> rfl)|(simp [*,errW_none,errW_some] <;> rfl),by repeat (first|(with_reducible first|exact HB.out|apply below_alloc|apply pw_below_drewN|apply below_drew1|refine below_set ?_ GE471.out)|exact HB.out)⟩
         ·rw [if_neg c46] at H
          have c46b0:((wrap64 ((t472.length:Int)+(t475.length:Int))) == (t467.length:Int))=false:=beq_eq_false_iff_ne.mpr c46
          have c46b1:((wrap64 ((t472.length:Int)+(t475.length:Int))) != (t467.length:Int))=true:=bne_iff_ne.mpr c46
          exact absurd ((Option.some.inj H).trans hr_.out) (by decide)
        ·replace c45:=Bool.eq_false_iff.mpr c45
         subst c45
         have H1:(some true)=some r:=by rw [if_neg (show ¬ (false=true) by decide)] at H;exact H
         clear H
         have H:=H1
         clear H1
         obtain rfl:=Option.some.inj H
         have hcz52_0:wr.cell? ⟨gb471,0,none⟩=some (.int .i64 t463):=(blk_cell BK471.out 0).trans rfl
         have hcz52_1:wr.cell? ⟨gb471,1,none⟩=some (.slice Ao11 t464.length co11):=(blk_cell BK471.out 1).trans rfl
         have hfz52_0:=blk_frozen BK471.out 0
         have hfz52_1:=blk_frozen BK471.out 1
         go_wp2_with (first|((with_reducible refine gate_callee (f:=43) rfl ?_);refine goesL_ (some 82) rfl rfl Try.func43 (by kernel_rfl) rfl #[.agg #[.int .i64 t463,.slice Ao11 t464.length co11],.slice Ao14 t467.length co14] rfl (by (try simp only [List.map_toArray,List.map_cons,List.map_nil]);first|done|rfl|(simp only [List.length_drop,List.length_take];rfl)) ?_;(with_reducible refine (spec_RingOk.calls k2 t463 _ _ t464 _ _ t467 false _ ?side1 ?side2 ?side3 ?side4 A44.out).mono ?_);(case side1=>repeat (first|exact (Kd.S_reads' HO_472001.out).2.2|(with_reducible refine Kd.C_alloc ?_ _)|(with_reducible refine Kd.C_drewN ?_ _)|(with_reducible refine Kd.C_drew ?_)));(case side2=>exact (Kd.S_reads' HO_472001.out).2.1);(case side3=>repeat (first|exact (Kd.R_reads' HO_4.out).2.2|(with_reducible refine Kd.C_alloc ?_ _)|(with_reducible refine Kd.C_drewN ?_ _)|(with_reducible refine Kd.C_drew ?_)));(case side4=>exact (Kd.R_reads' HO_4.out).2.1);rintro e w53 ⟨rfl,hb⟩;refine ⟨_,rfl,?_⟩;have n0_:=Aside0.mk (Kd.R_below (by (with_reducible repeat (first|apply Kd.R_alloc|apply Kd.R_drewN|apply Kd.R_drew));exact HO_4.out) hb);have n1_:=Aside0.mk (Kd.R_below (by (with_reducible repeat (first|apply Kd.R_alloc|apply Kd.R_drewN|apply Kd.R_drew));exact HO_6.out) hb);have n2_:=Aside0.mk (Kd.R_below (by (with_reducible repeat (first|apply Kd.R_alloc|apply Kd.R_drewN|apply Kd.R_drew));exact HO_7.out) hb);have n3_:=Aside0.mk (Kd.S_below (by (with_reducible repeat (first|apply Kd.S_alloc|apply Kd.S_drewN|apply Kd.S_drew));exact HO_472001.out) hb);have n4_:=Aside0.mk (blk_below (g:=gb471) (o:=.cells #[.int .i64 t463,.slice Ao11 t464.length co11] 43 (0,0)) (by (with_reducible repeat (first|refine blk_drewN ?_ _|refine blk_drew ?_|refine blk_alloc ?_ _));exact BK471.out) hb);have n5_:=Aside0.mk (below_step (by repeat (first|(with_reducible first|exact HB.out|apply below_alloc|apply pw_below_drewN|apply below_drew1|refine below_set ?_ GE471.out)|exact HB.out)) hb);clear HO_4;clear HO_6;clear HO_7;clear HO_472001;clear BK471;clear HB;have HO_4:=n0_;have HO_6:=n1_;have HO_7:=n2_;have HO_472001:=n3_;have BK471:=n4_;have HB:=n5_;clear n0_ n1_ n2_ n3_ n4_ n5_;(try clear hb);(try clear hb2);(try clear hk);(try clear hi)))
         go_ret
         exact ⟨by first|rfl|(simp [errW_none,errW_some] <;> rfl)|(simp [*,errW_none,errW_some] <;> rfl),by repeat (first|(with_reducible first|exact HB.out|apply below_alloc|apply pw_below_drewN|apply below_drew1|refine below_set ?_ GE471.out)|exact HB.out)⟩
end Go.Proofs.Ytbhllgifciaepaa.PFnPlaces
