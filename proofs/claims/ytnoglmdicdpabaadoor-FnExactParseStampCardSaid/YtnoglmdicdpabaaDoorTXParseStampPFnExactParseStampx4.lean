/- Trimmed by a program of this session (trim.py). Not trusted: Lean checks it. -/
import Derived.Test.YtnoglmdicdpabaaDoorTXParseStampPFnExactParseStampx0
import Derived.Test.YtnoglmdicdpabaaDoorTXParseStampPFnExactParseStampx2
import Derived.Test.YtnoglmdicdpabaaDoorTXParseStampPFnExactParseStampx3
namespace Go.Proofs.YtnoglmdicdpabaaDoor.PFnExactParseStamp
open Go.RowKit Go.Proofs.YtnoglmdicdpabaaDoorW.PrintWords Go.Proofs.YtnoglmdicdpabaaDoorW.PrintLast Go.Proofs.YtnoglmdicdpabaaDoorW.PrintMore Go.Proofs.YtnoglmdicdpabaaDoor.St
attribute [local go_sem] max2_int min2_int max_two min_two max_three min_three max_four min_four
set_option linter.unusedVariables false
set_option linter.unusedSimpArgs false
def laws_FnExactParseStamp.f (k:Nat) (a0:ByteArray):Option (Bool):=if (a0.size:Int) > 1048576 then (some true) else ((spec_ParseStamp.f k a0).bind fun bt160=>((impl_ParseStamp.f k a0).bind fun bt165=>((laws_eqStamp.f bt165.1 bt165.2.1 bt165.2.2.1 bt160.1 bt160.2.1 bt160.2.2.1).bind fun t170=>(if t170=true then (if (bt165.2.2.2 != bt160.2.2.2)=true then (some false) else (some true)) else (some false)))))
set_option maxHeartbeats 8000000 in
set_option maxRecDepth 100000 in
theorem laws_FnExactParseStamp.calls (k:Nat) (a0:ByteArray) (r:Bool) (w:World) (hL:Aside0 (Laid w)) (h:laws_FnExactParseStamp.f k a0=some r) (hr_:Aside0 (r=true)) :
  Calls Tryd.prog 5 #[.string a0] w fun e w'=>e = .returned (.bool r)∧Below w.heap.size w w':=by
 have hu25:=Tryd.underlying25
 have HB:=Aside0.mk (Below.refl w.heap.size w)
 have H:(if (a0.size:Int) > 1048576 then (some true) else ((spec_ParseStamp.f k a0).bind fun bt160=>((impl_ParseStamp.f k a0).bind fun bt165=>((laws_eqStamp.f bt165.1 bt165.2.1 bt165.2.2.1 bt160.1 bt160.2.1 bt160.2.2.1).bind fun t170=>(if t170=true then (if (bt165.2.2.2 != bt160.2.2.2)=true then (some false) else (some true)) else (some false))))))=some r:=h
 clear h
 by_cases c2:(a0.size:Int) > 1048576
 ·rw [if_pos c2] at H
  have c2b0:decide (1048576 < (a0.size:Int))=true:=decide_eq_true c2
  have c2b1:decide (1048576 < a0.size)=true:=decide_eq_true (by omega)
  clear c2
  obtain rfl:=Option.some.inj H
  go_enter Tryd.func5,Tryd.ntmps5
  go_wp2
  go_ret
  exact ⟨rz,be⟩
 ·rw [if_neg c2] at H
  have c2b0:decide (1048576 < (a0.size:Int))=false:=decide_eq_false c2
  have c2b1:decide (1048576 < a0.size)=false:=decide_eq_false (by omega)
  clear c2
  replace H:=Option.bind_eq_some_iff.mp H
  obtain ⟨⟨t160,t161,t162,t163⟩,A30,H⟩:=H
  try dsimp only at H
  have A3:=Aside0.mk A30
  clear A30
  replace H:=Option.bind_eq_some_iff.mp H
  obtain ⟨⟨t165,t166,t167,t168⟩,A40,H⟩:=H
  try dsimp only at H
  have A4:=Aside0.mk A40
  clear A40
  replace H:=Option.bind_eq_some_iff.mp H
  obtain ⟨t170,A50,H⟩:=H
  try dsimp only at H
  have A5:=Aside0.mk A50
  clear A50
  by_cases c6:t170=true
  ·subst c6
   rw [if_pos rfl] at H
   by_cases c7:(t168 != t163)=true
   ·rw [if_pos c7] at H
    have c7b0:(t168 != t163)=true:=c7
    (try (have c7b1:decide (t168=t163)=false:=by simpa using c7))
    (try (have c7b2:(t168 == t163)=false:=by simpa using c7))
    (try (have c7b3 : ¬ (t168=t163):=by simpa using c7))
    clear c7
    exact absurd ((Option.some.inj H).trans hr_.out) (by decide)
   ·rw [if_neg c7] at H
    have c7b0:(t168 != t163)=false:=by simpa using c7
    (try (have c7b1:decide (t168=t163)=true:=by simpa using c7))
    (try (have c7b2:(t168 == t163)=true:=by simpa using c7))
    clear c7
    obtain rfl:=Option.some.inj H
    go_enter Tryd.func5,Tryd.ntmps5
    go_wp2_with (first|((with_reducible refine gate_callee (f:=19) rfl ?_);refine goesL_ (some 12) rfl rfl Tryd.func19 (by kernel_rfl) rfl #[.string a0] rfl (by (try simp only [List.map_toArray,List.map_cons,List.map_nil]);first|done|rfl|(simp only [List.length_drop,List.length_take];rfl)) ?_;(with_reducible refine (spec_ParseStamp.calls k a0 t160 t161 t162 t163 _ A3.out).mono ?_);rintro e w8 ⟨rfl,hb⟩;refine ⟨_,rfl,?_⟩;have n0_:=bs hb;clear HB;have HB:=n0_;clear n0_;(try clear hb);(try clear hb2);(try clear hk);(try clear hi))|((with_reducible refine gate_dst (N:=3) rfl ?_);refine box_event ?hg (N:=3) ?hd (cs:=#[.int .i64 0,.int .i64 0,.int .i64 0]) (t:=25) ?hr ?_;(case hd=>rfl);(case hg=>rfl);(case hr=>first|(go_simp;done)|(go_simp;rfl));intro gb164 hg w9 hbox hb;have n0_:=bs hb;have n1_:=Aside0.mk (hbox);have n2_:=Aside0.mk ((by rw [hg];exact (below_size be):w.heap.size≤gb164));have n3_:=Aside0.mk ((by rw [hg];exact (below_size be):w.heap.size≤gb164));clear HB;have HB:=n0_;have BK164:=n1_;have GW164:=n2_;have GE164:=n3_;clear n0_ n1_ n2_ n3_;clear hb hbox hg;have hcz10_0:w9.cell? ⟨gb164,0,none⟩=some (.int .i64 0):=(blk_cell BK164.out 0).trans rfl;have hcz10_1:w9.cell? ⟨gb164,1,none⟩=some (.int .i64 0):=(blk_cell BK164.out 1).trans rfl;have hcz10_2:w9.cell? ⟨gb164,2,none⟩=some (.int .i64 0):=(blk_cell BK164.out 2).trans rfl;have hfz10_0:=blk_frozen BK164.out 0;have hfz10_1:=blk_frozen BK164.out 1;have hfz10_2:=blk_frozen BK164.out 2)|((with_reducible refine gate_callee (f:=20) rfl ?_);refine goesL_ (some 17) rfl rfl Tryd.func20 (by kernel_rfl) rfl #[.string a0] rfl (by (try simp only [List.map_toArray,List.map_cons,List.map_nil]);first|done|rfl|(simp only [List.length_drop,List.length_take];rfl)) ?_;(with_reducible refine (impl_ParseStamp.calls k a0 t165 t166 t167 t168 _ ?side1 A4.out).mono ?_);(case side1=>exact lb hL);rintro e w11 ⟨rfl,hb⟩;refine ⟨_,rfl,?_⟩;have n0_:=Aside0.mk (blk_below (g:=gb164) (o:=.cells #[.int .i64 t160,.int .i64 t161,.int .i64 t162] 25 (0,0)) (by (with_reducible repeat (first|refine blk_drewN ?_ _|refine blk_drew ?_|refine blk_alloc ?_ _));refine blk_put (cs:=#[.int .i64 t160,.int .i64 t161,.int .i64 0]) ?_ 2 _ rfl;(with_reducible repeat (first|refine blk_drewN ?_ _|refine blk_drew ?_|refine blk_alloc ?_ _));refine blk_put (cs:=#[.int .i64 t160,.int .i64 0,.int .i64 0]) ?_ 1 _ rfl;(with_reducible repeat (first|refine blk_drewN ?_ _|refine blk_drew ?_|refine blk_alloc ?_ _));refine blk_put (cs:=#[.int .i64 0,.int .i64 0,.int .i64 0]) ?_ 0 _ rfl;(with_reducible repeat (first|refine blk_drewN ?_ _|refine blk_drew ?_|refine blk_alloc ?_ _));exact BK164.out) hb);have n1_:=bs hb;clear BK164;clear HB;have BK164:=n0_;have HB:=n1_;clear n0_ n1_;(try clear hb);(try clear hb2);(try clear hk);(try clear hi))|((with_reducible refine gate_dst (N:=5) rfl ?_);refine box_event ?hg (N:=5) ?hd (cs:=#[.int .i64 0,.int .i64 0,.int .i64 0]) (t:=25) ?hr ?_;(case hd=>rfl);(case hg=>rfl);(case hr=>first|(go_simp;done)|(go_simp;rfl));intro gb169 hg w12 hbox hb;have n0_:=Aside0.mk (blk_below (g:=gb164) (o:=.cells #[.int .i64 t160,.int .i64 t161,.int .i64 t162] 25 (0,0)) (bk BK164) hb);have n1_:=bs hb;have n2_:=Aside0.mk (hbox);have n3_:=Aside0.mk ((by rw [hg];exact (below_size be):w.heap.size≤gb169));have n4_:=Aside0.mk ((by rw [hg];exact (below_size be):w.heap.size≤gb169));have n5_:=Aside0.mk ((by rw [hg];exact Nat.ne_of_lt (blk_lt (g:=gb164) (o:=.cells #[.int .i64 t160,.int .i64 t161,.int .i64 t162] 25 (0,0)) (bk BK164)):gb164 ≠ gb169));have n6_:=Aside0.mk ((by rw [hg];exact Nat.ne_of_gt (blk_lt (g:=gb164) (o:=.cells #[.int .i64 t160,.int .i64 t161,.int .i64 t162] 25 (0,0)) (bk BK164)):gb169 ≠ gb164));clear BK164;clear HB;have BK164:=n0_;have HB:=n1_;have BK169:=n2_;have GW169:=n3_;have GE169:=n4_;have NB164_169:=n5_;have NB169_164:=n6_;clear n0_ n1_ n2_ n3_ n4_ n5_ n6_;clear hb hbox hg;have hnb13:=NB169_164.out;have hnc13:=NB164_169.out;have hcz14_0:w12.cell? ⟨gb169,0,none⟩=some (.int .i64 0):=(blk_cell BK169.out 0).trans rfl;have hcz14_1:w12.cell? ⟨gb169,1,none⟩=some (.int .i64 0):=(blk_cell BK169.out 1).trans rfl;have hcz14_2:w12.cell? ⟨gb169,2,none⟩=some (.int .i64 0):=(blk_cell BK169.out 2).trans rfl;have hfz14_0:=blk_frozen BK169.out 0;have hfz14_1:=blk_frozen BK169.out 1;have hfz14_2:=blk_frozen BK169.out 2;have hcz15_0:w12.cell? ⟨gb164,0,none⟩=some (.int .i64 t160):=(blk_cell BK164.out 0).trans rfl;have hcz15_1:w12.cell? ⟨gb164,1,none⟩=some (.int .i64 t161):=(blk_cell BK164.out 1).trans rfl;have hcz15_2:w12.cell? ⟨gb164,2,none⟩=some (.int .i64 t162):=(blk_cell BK164.out 2).trans rfl;have hfz15_0:=blk_frozen BK164.out 0;have hfz15_1:=blk_frozen BK164.out 1;have hfz15_2:=blk_frozen BK164.out 2)|((with_reducible refine gate_callee (f:=21) rfl ?_);refine goesL_ (some 22) rfl rfl Tryd.func21 (by kernel_rfl) rfl #[.agg #[.int .i64 t165,.int .i64 t166,.int .i64 t167],.agg #[.int .i64 t160,.int .i64 t161,.int .i64 t162]] rfl (by (try simp only [List.map_toArray,List.map_cons,List.map_nil]);first|done|rfl|(simp only [List.length_drop,List.length_take];rfl)) ?_;(with_reducible refine (laws_eqStamp.calls t165 t166 t167 t160 t161 t162 true _ A5.out).mono ?_);rintro e w16 ⟨rfl,hb⟩;refine ⟨_,rfl,?_⟩;have n0_:=Aside0.mk (blk_below (g:=gb164) (o:=.cells #[.int .i64 t160,.int .i64 t161,.int .i64 t162] 25 (0,0)) (by (with_reducible repeat (first|refine blk_drewN ?_ _|refine blk_drew ?_|refine blk_alloc ?_ _));refine blk_far ?_ NB164_169.out _;(with_reducible repeat (first|refine blk_drewN ?_ _|refine blk_drew ?_|refine blk_alloc ?_ _));refine blk_far ?_ NB164_169.out _;(with_reducible repeat (first|refine blk_drewN ?_ _|refine blk_drew ?_|refine blk_alloc ?_ _));refine blk_far ?_ NB164_169.out _;(with_reducible repeat (first|refine blk_drewN ?_ _|refine blk_drew ?_|refine blk_alloc ?_ _));exact BK164.out) hb);have n1_:=Aside0.mk (blk_below (g:=gb169) (o:=.cells #[.int .i64 t165,.int .i64 t166,.int .i64 t167] 25 (0,0)) (by (with_reducible repeat (first|refine blk_drewN ?_ _|refine blk_drew ?_|refine blk_alloc ?_ _));refine blk_put (cs:=#[.int .i64 t165,.int .i64 t166,.int .i64 0]) ?_ 2 _ rfl;(with_reducible repeat (first|refine blk_drewN ?_ _|refine blk_drew ?_|refine blk_alloc ?_ _));refine blk_put (cs:=#[.int .i64 t165,.int .i64 0,.int .i64 0]) ?_ 1 _ rfl;(with_reducible repeat (first|refine blk_drewN ?_ _|refine blk_drew ?_|refine blk_alloc ?_ _));refine blk_put (cs:=#[.int .i64 0,.int .i64 0,.int .i64 0]) ?_ 0 _ rfl;(with_reducible repeat (first|refine blk_drewN ?_ _|refine blk_drew ?_|refine blk_alloc ?_ _));exact BK169.out) hb);have n2_:=bs hb;clear BK164;clear BK169;clear HB;have BK164:=n0_;have BK169:=n1_;have HB:=n2_;clear n0_ n1_ n2_;(try clear hb);(try clear hb2);(try clear hk);(try clear hi)))
    go_ret
    exact ⟨rz,be⟩
  ·replace c6:=Bool.eq_false_iff.mpr c6
   subst c6
   have H1:(some false)=some r:=by rw [if_neg (show ¬ (false=true) by decide)] at H;exact H
   clear H
   have H:=H1
   clear H1
   exact absurd ((Option.some.inj H).trans hr_.out) (by decide)
end Go.Proofs.YtnoglmdicdpabaaDoor.PFnExactParseStamp
