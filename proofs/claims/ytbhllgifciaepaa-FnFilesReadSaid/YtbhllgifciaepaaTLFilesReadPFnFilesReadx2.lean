/- Trimmed by a program of this session (trim.py). Not trusted: Lean checks it. -/
import Derived.Test.YtbhllgifciaepaaTLFilesReadPFnFilesReadx0
import Derived.Test.YtbhllgifciaepaaTLFilesReadPFnFilesReadx1
namespace Go.Proofs.Ytbhllgifciaepaa.PFnFilesRead
open Go.RowKit Go.Proofs.YtbhllgifciaepaaW.PrintWords Go.Proofs.YtbhllgifciaepaaW.PrintLast Go.Proofs.YtbhllgifciaepaaW.PrintMore Go.Proofs.Ytbhllgifciaepaa.St
attribute [local go_sem] max2_int min2_int max_two min_two max_three min_three max_four min_four
set_option linter.unusedVariables false
set_option linter.unusedSimpArgs false
def spec_FileOk.f (a0_0:Int) (a0_1:Int) (a0_2:Int) (a0_3:Bool) (l0_4:List Int):Option (Bool):=(spec_StampOk.f a0_0 a0_1 a0_2).bind fun t154=>(if t154=true then (if (l0_4.length:Int)≤200 then (if a0_3=true then (some ((l0_4.length:Int) == 0)) else (some true)) else (some false)) else (some false))
set_option maxHeartbeats 8000000 in
set_option maxRecDepth 100000 in
theorem spec_FileOk.calls (a0_0:Int) (a0_1:Int) (a0_2:Int) (a0_3:Bool) (A0_4:Option Addr) (c0_4:Nat) (l0_4:List Int) (r:Bool) (w:World) (hr0_4:Kd.C (Kd.int .u8) w A0_4 l0_4.length l0_4) (hc0_4:l0_4.length≤c0_4) (h:spec_FileOk.f a0_0 a0_1 a0_2 a0_3 l0_4=some r) :
  Calls Try.prog 86 #[.agg #[.int .i64 a0_0,.int .i64 a0_1,.int .i64 a0_2,.bool a0_3,.slice A0_4 l0_4.length c0_4]] w fun e w'=>e = .returned (.bool r)∧Below w.heap.size w w':=by
 have hu61:=Try.underlying61
 have hu59:=Try.underlying59
 have HR0_4:=Aside0.mk hr0_4
 have HC0_4:=Aside0.mk hc0_4
 clear hr0_4 hc0_4
 have HB:=Aside0.mk (Below.refl w.heap.size w)
 have H:((spec_StampOk.f a0_0 a0_1 a0_2).bind fun t154=>(if t154=true then (if (l0_4.length:Int)≤200 then (if a0_3=true then (some ((l0_4.length:Int) == 0)) else (some true)) else (some false)) else (some false)))=some r:=h
 clear h
 replace H:=Option.bind_eq_some_iff.mp H
 obtain ⟨t154,A20,H⟩:=H
 try dsimp only at H
 have A2:=Aside0.mk A20
 clear A20
 by_cases c3:t154=true
 ·subst c3
  rw [if_pos rfl] at H
  by_cases c4:(l0_4.length:Int)≤200
  ·rw [if_pos c4] at H
   have c4b0:decide ((l0_4.length:Int)≤200)=true:=decide_eq_true c4
   have c4b1:decide (l0_4.length≤200)=true:=decide_eq_true (by omega)
   clear c4
   by_cases c5:a0_3=true
   ·subst c5
    rw [if_pos rfl] at H
    obtain rfl:=Option.some.inj H
    go_enter Try.func86,Try.ntmps86
    go_wp2_with (first|((with_reducible refine gate_dst (N:=1) rfl ?_);(try (refine gate_guard (by rfl) ?_;dsimp only));refine box_event ?hg (N:=1) ?hd (cs:=#[.int .i64 a0_0,.int .i64 a0_1,.int .i64 a0_2,.bool true,.slice A0_4 l0_4.length c0_4]) (t:=61) ?hr ?_;(case hd=>rfl);(case hg=>rfl);(case hr=>first|(go_simp;done)|(go_simp;rfl));intro gb153 hg w6 hbox hb;have n0_:=bs hb;have n1_:=Aside0.mk (hbox);have n2_:=Aside0.mk ((by rw [hg];exact (below_size be):w.heap.size≤gb153));have n3_:=Aside0.mk ((by rw [hg];exact (below_size be):w.heap.size≤gb153));clear HB;have HB:=n0_;have BK153:=n1_;have GW153:=n2_;have GE153:=n3_;clear n0_ n1_ n2_ n3_;clear hb hbox hg;have hcz7_0:w6.cell? ⟨gb153,0,none⟩=some (.int .i64 a0_0):=(blk_cell BK153.out 0).trans rfl;have hcz7_1:w6.cell? ⟨gb153,1,none⟩=some (.int .i64 a0_1):=(blk_cell BK153.out 1).trans rfl;have hcz7_2:w6.cell? ⟨gb153,2,none⟩=some (.int .i64 a0_2):=(blk_cell BK153.out 2).trans rfl;have hcz7_3:w6.cell? ⟨gb153,3,none⟩=some (.bool true):=(blk_cell BK153.out 3).trans rfl;have hcz7_4:w6.cell? ⟨gb153,4,none⟩=some (.slice A0_4 l0_4.length c0_4):=(blk_cell BK153.out 4).trans rfl;have hfz7_0:=blk_frozen BK153.out 0;have hfz7_1:=blk_frozen BK153.out 1;have hfz7_2:=blk_frozen BK153.out 2;have hfz7_3:=blk_frozen BK153.out 3;have hfz7_4:=blk_frozen BK153.out 4)|((with_reducible refine gate_callee (f:=120) rfl ?_);refine goesL_ (some 5) rfl rfl Try.func120 (by kernel_rfl) rfl #[.agg #[.int .i64 a0_0,.int .i64 a0_1,.int .i64 a0_2]] rfl (by (try simp only [List.map_toArray,List.map_cons,List.map_nil]);first|done|rfl|(simp only [List.length_drop,List.length_take];rfl)) ?_;(with_reducible refine (spec_StampOk.calls a0_0 a0_1 a0_2 true _ A2.out).mono ?_);rintro e w8 ⟨rfl,hb⟩;refine ⟨_,rfl,?_⟩;have n0_:=Aside0.mk (blk_below (g:=gb153) (o:=.cells #[.int .i64 a0_0,.int .i64 a0_1,.int .i64 a0_2,.bool true,.slice A0_4 l0_4.length c0_4] 61 (0,0)) (bk BK153) hb);have n1_:=bs hb;clear BK153;clear HB;have BK153:=n0_;have HB:=n1_;clear n0_ n1_;(try clear hb);(try clear hb2);(try clear hk);(try clear hi);have hcz9_0:w8.cell? ⟨gb153,0,none⟩=some (.int .i64 a0_0):=(blk_cell BK153.out 0).trans rfl;have hcz9_1:w8.cell? ⟨gb153,1,none⟩=some (.int .i64 a0_1):=(blk_cell BK153.out 1).trans rfl;have hcz9_2:w8.cell? ⟨gb153,2,none⟩=some (.int .i64 a0_2):=(blk_cell BK153.out 2).trans rfl;have hcz9_3:w8.cell? ⟨gb153,3,none⟩=some (.bool true):=(blk_cell BK153.out 3).trans rfl;have hcz9_4:w8.cell? ⟨gb153,4,none⟩=some (.slice A0_4 l0_4.length c0_4):=(blk_cell BK153.out 4).trans rfl;have hfz9_0:=blk_frozen BK153.out 0;have hfz9_1:=blk_frozen BK153.out 1;have hfz9_2:=blk_frozen BK153.out 2;have hfz9_3:=blk_frozen BK153.out 3;have hfz9_4:=blk_frozen BK153.out 4))
    go_ret
    exact ⟨rz,be⟩
   ·replace c5:=Bool.eq_false_iff.mpr c5
    subst c5
    replace H:=(if_neg (show ¬ (false=true) by decide)).symm.trans H
    obtain rfl:=Option.some.inj H
    go_enter Try.func86,Try.ntmps86
    go_wp2_with (first|((with_reducible refine gate_dst (N:=1) rfl ?_);(try (refine gate_guard (by rfl) ?_;dsimp only));refine box_event ?hg (N:=1) ?hd (cs:=#[.int .i64 a0_0,.int .i64 a0_1,.int .i64 a0_2,.bool false,.slice A0_4 l0_4.length c0_4]) (t:=61) ?hr ?_;(case hd=>rfl);(case hg=>rfl);(case hr=>first|(go_simp;done)|(go_simp;rfl));intro gb153 hg w10 hbox hb;have n0_:=bs hb;have n1_:=Aside0.mk (hbox);have n2_:=Aside0.mk ((by rw [hg];exact (below_size be):w.heap.size≤gb153));have n3_:=Aside0.mk ((by rw [hg];exact (below_size be):w.heap.size≤gb153));clear HB;have HB:=n0_;have BK153:=n1_;have GW153:=n2_;have GE153:=n3_;clear n0_ n1_ n2_ n3_;clear hb hbox hg;have hcz11_0:w10.cell? ⟨gb153,0,none⟩=some (.int .i64 a0_0):=(blk_cell BK153.out 0).trans rfl;have hcz11_1:w10.cell? ⟨gb153,1,none⟩=some (.int .i64 a0_1):=(blk_cell BK153.out 1).trans rfl;have hcz11_2:w10.cell? ⟨gb153,2,none⟩=some (.int .i64 a0_2):=(blk_cell BK153.out 2).trans rfl;have hcz11_3:w10.cell? ⟨gb153,3,none⟩=some (.bool false):=(blk_cell BK153.out 3).trans rfl;have hcz11_4:w10.cell? ⟨gb153,4,none⟩=some (.slice A0_4 l0_4.length c0_4):=(blk_cell BK153.out 4).trans rfl;have hfz11_0:=blk_frozen BK153.out 0;have hfz11_1:=blk_frozen BK153.out 1;have hfz11_2:=blk_frozen BK153.out 2;have hfz11_3:=blk_frozen BK153.out 3;have hfz11_4:=blk_frozen BK153.out 4)|((with_reducible refine gate_callee (f:=120) rfl ?_);refine goesL_ (some 5) rfl rfl Try.func120 (by kernel_rfl) rfl #[.agg #[.int .i64 a0_0,.int .i64 a0_1,.int .i64 a0_2]] rfl (by (try simp only [List.map_toArray,List.map_cons,List.map_nil]);first|done|rfl|(simp only [List.length_drop,List.length_take];rfl)) ?_;(with_reducible refine (spec_StampOk.calls a0_0 a0_1 a0_2 true _ A2.out).mono ?_);rintro e w12 ⟨rfl,hb⟩;refine ⟨_,rfl,?_⟩;have n0_:=Aside0.mk (blk_below (g:=gb153) (o:=.cells #[.int .i64 a0_0,.int .i64 a0_1,.int .i64 a0_2,.bool false,.slice A0_4 l0_4.length c0_4] 61 (0,0)) (bk BK153) hb);have n1_:=bs hb;clear BK153;clear HB;have BK153:=n0_;have HB:=n1_;clear n0_ n1_;(try clear hb);(try clear hb2);(try clear hk);(try clear hi);have hcz13_0:w12.cell? ⟨gb153,0,none⟩=some (.int .i64 a0_0):=(blk_cell BK153.out 0).trans rfl;have hcz13_1:w12.cell? ⟨gb153,1,none⟩=some (.int .i64 a0_1):=(blk_cell BK153.out 1).trans rfl;have hcz13_2:w12.cell? ⟨gb153,2,none⟩=some (.int .i64 a0_2):=(blk_cell BK153.out 2).trans rfl;have hcz13_3:w12.cell? ⟨gb153,3,none⟩=some (.bool false):=(blk_cell BK153.out 3).trans rfl;have hcz13_4:w12.cell? ⟨gb153,4,none⟩=some (.slice A0_4 l0_4.length c0_4):=(blk_cell BK153.out 4).trans rfl;have hfz13_0:=blk_frozen BK153.out 0;have hfz13_1:=blk_frozen BK153.out 1;have hfz13_2:=blk_frozen BK153.out 2;have hfz13_3:=blk_frozen BK153.out 3;have hfz13_4:=blk_frozen BK153.out 4))
    go_ret
    exact ⟨rz,be⟩
  ·rw [if_neg c4] at H
   have c4b0:decide ((l0_4.length:Int)≤200)=false:=decide_eq_false c4
   have c4b1:decide (l0_4.length≤200)=false:=decide_eq_false (by omega)
   clear c4
   obtain rfl:=Option.some.inj H
   go_enter Try.func86,Try.ntmps86
   go_wp2_with (first|((with_reducible refine gate_dst (N:=1) rfl ?_);(try (refine gate_guard (by rfl) ?_;dsimp only));refine box_event ?hg (N:=1) ?hd (cs:=#[.int .i64 a0_0,.int .i64 a0_1,.int .i64 a0_2,.bool a0_3,.slice A0_4 l0_4.length c0_4]) (t:=61) ?hr ?_;(case hd=>rfl);(case hg=>rfl);(case hr=>first|(go_simp;done)|(go_simp;rfl));intro gb153 hg w14 hbox hb;have n0_:=bs hb;have n1_:=Aside0.mk (hbox);have n2_:=Aside0.mk ((by rw [hg];exact (below_size be):w.heap.size≤gb153));have n3_:=Aside0.mk ((by rw [hg];exact (below_size be):w.heap.size≤gb153));clear HB;have HB:=n0_;have BK153:=n1_;have GW153:=n2_;have GE153:=n3_;clear n0_ n1_ n2_ n3_;clear hb hbox hg;have hcz15_0:w14.cell? ⟨gb153,0,none⟩=some (.int .i64 a0_0):=(blk_cell BK153.out 0).trans rfl;have hcz15_1:w14.cell? ⟨gb153,1,none⟩=some (.int .i64 a0_1):=(blk_cell BK153.out 1).trans rfl;have hcz15_2:w14.cell? ⟨gb153,2,none⟩=some (.int .i64 a0_2):=(blk_cell BK153.out 2).trans rfl;have hcz15_3:w14.cell? ⟨gb153,3,none⟩=some (.bool a0_3):=(blk_cell BK153.out 3).trans rfl;have hcz15_4:w14.cell? ⟨gb153,4,none⟩=some (.slice A0_4 l0_4.length c0_4):=(blk_cell BK153.out 4).trans rfl;have hfz15_0:=blk_frozen BK153.out 0;have hfz15_1:=blk_frozen BK153.out 1;have hfz15_2:=blk_frozen BK153.out 2;have hfz15_3:=blk_frozen BK153.out 3;have hfz15_4:=blk_frozen BK153.out 4)|((with_reducible refine gate_callee (f:=120) rfl ?_);refine goesL_ (some 5) rfl rfl Try.func120 (by kernel_rfl) rfl #[.agg #[.int .i64 a0_0,.int .i64 a0_1,.int .i64 a0_2]] rfl (by (try simp only [List.map_toArray,List.map_cons,List.map_nil]);first|done|rfl|(simp only [List.length_drop,List.length_take];rfl)) ?_;(with_reducible refine (spec_StampOk.calls a0_0 a0_1 a0_2 true _ A2.out).mono ?_);rintro e w16 ⟨rfl,hb⟩;refine ⟨_,rfl,?_⟩;have n0_:=Aside0.mk (blk_below (g:=gb153) (o:=.cells #[.int .i64 a0_0,.int .i64 a0_1,.int .i64 a0_2,.bool a0_3,.slice A0_4 l0_4.length c0_4] 61 (0,0)) (bk BK153) hb);have n1_:=bs hb;clear BK153;clear HB;have BK153:=n0_;have HB:=n1_;clear n0_ n1_;(try clear hb);(try clear hb2);(try clear hk);(try clear hi);have hcz17_0:w16.cell? ⟨gb153,0,none⟩=some (.int .i64 a0_0):=(blk_cell BK153.out 0).trans rfl;have hcz17_1:w16.cell? ⟨gb153,1,none⟩=some (.int .i64 a0_1):=(blk_cell BK153.out 1).trans rfl;have hcz17_2:w16.cell? ⟨gb153,2,none⟩=some (.int .i64 a0_2):=(blk_cell BK153.out 2).trans rfl;have hcz17_3:w16.cell? ⟨gb153,3,none⟩=some (.bool a0_3):=(blk_cell BK153.out 3).trans rfl;have hcz17_4:w16.cell? ⟨gb153,4,none⟩=some (.slice A0_4 l0_4.length c0_4):=(blk_cell BK153.out 4).trans rfl;have hfz17_0:=blk_frozen BK153.out 0;have hfz17_1:=blk_frozen BK153.out 1;have hfz17_2:=blk_frozen BK153.out 2;have hfz17_3:=blk_frozen BK153.out 3;have hfz17_4:=blk_frozen BK153.out 4))
   go_ret
   exact ⟨rz,be⟩
 ·replace c3:=Bool.eq_false_iff.mpr c3
  subst c3
  replace H:=(if_neg (show ¬ (false=true) by decide)).symm.trans H
  obtain rfl:=Option.some.inj H
  go_enter Try.func86,Try.ntmps86
  go_wp2_with (first|((with_reducible refine gate_dst (N:=1) rfl ?_);(try (refine gate_guard (by rfl) ?_;dsimp only));refine box_event ?hg (N:=1) ?hd (cs:=#[.int .i64 a0_0,.int .i64 a0_1,.int .i64 a0_2,.bool a0_3,.slice A0_4 l0_4.length c0_4]) (t:=61) ?hr ?_;(case hd=>rfl);(case hg=>rfl);(case hr=>first|(go_simp;done)|(go_simp;rfl));intro gb153 hg w18 hbox hb;have n0_:=bs hb;have n1_:=Aside0.mk (hbox);have n2_:=Aside0.mk ((by rw [hg];exact (below_size be):w.heap.size≤gb153));have n3_:=Aside0.mk ((by rw [hg];exact (below_size be):w.heap.size≤gb153));clear HB;have HB:=n0_;have BK153:=n1_;have GW153:=n2_;have GE153:=n3_;clear n0_ n1_ n2_ n3_;clear hb hbox hg;have hcz19_0:w18.cell? ⟨gb153,0,none⟩=some (.int .i64 a0_0):=(blk_cell BK153.out 0).trans rfl;have hcz19_1:w18.cell? ⟨gb153,1,none⟩=some (.int .i64 a0_1):=(blk_cell BK153.out 1).trans rfl;have hcz19_2:w18.cell? ⟨gb153,2,none⟩=some (.int .i64 a0_2):=(blk_cell BK153.out 2).trans rfl;have hcz19_3:w18.cell? ⟨gb153,3,none⟩=some (.bool a0_3):=(blk_cell BK153.out 3).trans rfl;have hcz19_4:w18.cell? ⟨gb153,4,none⟩=some (.slice A0_4 l0_4.length c0_4):=(blk_cell BK153.out 4).trans rfl;have hfz19_0:=blk_frozen BK153.out 0;have hfz19_1:=blk_frozen BK153.out 1;have hfz19_2:=blk_frozen BK153.out 2;have hfz19_3:=blk_frozen BK153.out 3;have hfz19_4:=blk_frozen BK153.out 4)|((with_reducible refine gate_callee (f:=120) rfl ?_);refine goesL_ (some 5) rfl rfl Try.func120 (by kernel_rfl) rfl #[.agg #[.int .i64 a0_0,.int .i64 a0_1,.int .i64 a0_2]] rfl (by (try simp only [List.map_toArray,List.map_cons,List.map_nil]);first|done|rfl|(simp only [List.length_drop,List.length_take];rfl)) ?_;(with_reducible refine (spec_StampOk.calls a0_0 a0_1 a0_2 false _ A2.out).mono ?_);rintro e w20 ⟨rfl,hb⟩;refine ⟨_,rfl,?_⟩;have n0_:=Aside0.mk (blk_below (g:=gb153) (o:=.cells #[.int .i64 a0_0,.int .i64 a0_1,.int .i64 a0_2,.bool a0_3,.slice A0_4 l0_4.length c0_4] 61 (0,0)) (bk BK153) hb);have n1_:=bs hb;clear BK153;clear HB;have BK153:=n0_;have HB:=n1_;clear n0_ n1_;(try clear hb);(try clear hb2);(try clear hk);(try clear hi)))
  go_ret
  exact ⟨rz,be⟩
mutual
def spec_PutNum.j0:Nat→Int→List Int→Option (List Int)
 | 0,_,_=>none
 | k+1,x1,x5=>if x1 < 0 then (spec_PutNum.j1 k 0 x5) else (spec_PutNum.j1 k x1 x5)
def spec_PutNum.j1:Nat→Int→List Int→Option (List Int)
 | 0,_,_=>none
 | k+1,x1,x5=>spec_PutNum.l0 k x1 x5
def spec_PutNum.l0:Nat→Int→List Int→Option (List Int)
 | 0,_,_=>none
 | k+1,x1,x5=>if x1 > 127 then (if x5.length < 140737488355328 then (spec_PutNum.l0 k (x1 / 128) (x5 ++ [(Go.bits .or .i64 (Go.bits .and .i64 x1 127) 128) % 256])) else (none)) else (if x5.length < 140737488355328 then (some (x5 ++ [(x1) % 256])) else (none))
end
def spec_PutNum.f (k:Nat) (l0:List Int) (a1:Int):Option (List Int):=(some (([]:List Int):List Int)).bind fun y155=>(if y155.length+l0.length < 140737488355328 then ((some (y155 ++ l0:List Int)).bind fun y158=>(if a1 > 1000000000 then (spec_PutNum.j0 k 1000000000 y158) else (spec_PutNum.j0 k a1 y158))) else (none))
set_option maxHeartbeats 8000000 in
set_option maxRecDepth 100000 in
theorem spec_PutNum.calls (k:Nat) (A0:Option Addr) (c0:Nat) (l0:List Int) (a1:Int) (r:List Int) (w:World) (hr0:Kd.C (Kd.int .u8) w A0 l0.length l0) (hc0:l0.length≤c0) (h:spec_PutNum.f k l0 a1=some r) :
  Calls Try.prog 88 #[.slice A0 l0.length c0,.int .i64 a1] w fun e w'=>∃ v0_:Value,e = .returned (v0_)∧Kd.R (Kd.int .u8) 5 w' w.heap.size (fun _=>True) v0_ r∧Below w.heap.size w w':=by
 have HR0:=Aside0.mk hr0
 have HC0:=Aside0.mk hc0
 clear hr0 hc0
 have HB:=Aside0.mk (Below.refl w.heap.size w)
 have H:((some (([]:List Int):List Int)).bind fun y155=>(if y155.length+l0.length < 140737488355328 then ((some (y155 ++ l0:List Int)).bind fun y158=>(if a1 > 1000000000 then (spec_PutNum.j0 k 1000000000 y158) else (spec_PutNum.j0 k a1 y158))) else (none)))=some r:=h
 clear h
 obtain ⟨y155,hy155⟩ : ∃ y_:List Int,y_=(([]:List Int)):=⟨_,rfl⟩
 replace H:(if y155.length+l0.length < 140737488355328 then ((some (y155 ++ l0:List Int)).bind fun y158=>(if a1 > 1000000000 then (spec_PutNum.j0 k 1000000000 y158) else (spec_PutNum.j0 k a1 y158))) else (none))=some r:=by first|(rw [hy155];with_reducible exact H)|(have H2_:=(Option.bind_some _ _).symm.trans H;rw [hy155];with_reducible exact H2_)|(have H2_:=(Option.bind_some _ _).symm.trans H;with_reducible exact H2_)|with_reducible exact H|(rw [hy155];exact H)|exact H
 have Ny155:=Aside0.mk hy155
 clear hy155
 by_cases c3:y155.length+l0.length < 140737488355328
 ·rw [if_pos c3] at H
  have LMc3:=Aside0.mk c3
  clear c3
  obtain ⟨y158,hy158⟩ : ∃ y_:List Int,y_=(y155 ++ l0):=⟨_,rfl⟩
  replace H:(if a1 > 1000000000 then (spec_PutNum.j0 k 1000000000 y158) else (spec_PutNum.j0 k a1 y158))=some r:=by first|(rw [hy158];with_reducible exact H)|(have H2_:=(Option.bind_some _ _).symm.trans H;rw [hy158];with_reducible exact H2_)|(have H2_:=(Option.bind_some _ _).symm.trans H;with_reducible exact H2_)|with_reducible exact H|(rw [hy158];exact H)|exact H
  have Ny158:=Aside0.mk hy158
  clear hy158
  have HC4:=Aside0.mk H
  clear H
  go_enter Try.func88,Try.ntmps88
  go_upto_if 10 with (first|((with_reducible refine gate_dst (N:=6) rfl ?_);refine Kd.R_lit (Kd.int .u8) _ 5 ?hg (N:=6) ?hd (xs:=([]:List Int)) (inner:=[]) (ok:=fun _=>True) (okp:=fun _=>True) ?hr ?hp (fun _ hk=>hk) trivial (Below.refl _ _) (Nat.le_refl _) (by simp) ?_;(case hd=>rfl);(case hg=>rfl);(case hr=>first|(go_simp;done)|(go_simp;rfl));(case hp=>exact (Reps.none _ _));intro v156 w5 ho6 hb hg_ hnew_;clear hg_ hnew_;(first|rw [← Ny155.out] at ho6|(simp only [Int.reduceToNat] at ho6;rw [← Ny155.out] at ho6));have n0_:=Aside0.mk (Kd.R_lower ho6 (below_size be));have n1_:=bs hb;clear HB;have HO157:=n0_;have HB:=n1_;clear n0_ n1_;clear hb ho6)|((with_reducible refine gate_builtin (b:=.append) (xs:=#[.tmp 6,.tmp 7]) rfl ?_);at_builtin;refine Kd.R_append_rows (Kd.int .u8) (w0:=w) w.heap.size rfl (.tmp 6) (.tmp 7) 54 5 (.int .u8 0) 1 rfl Try.underlying54 info5 rfl (by decide) (by omega) v156 y155 l0 _ _ _ (fun _=>True) (fun _=>False) rfl rfl ?aO ?aR (fun _ _ h=>h) (fun _ h=>h.elim) ?aF ?aB ?aS ?aL ?_;(case aR=>exact rC HR0);(case aB=>exact be);(case aF=>exact (fun _ _=>trivial));(case aO=>exact (rR HO157));(case aS=>exact (below_size be));(case aL=>have:=LMc3.out;omega);intro v159 w7 ho hb hg hat;rw [← Ny158.out] at ho;have n0_:=Aside0.mk (hb);have n1_:=Aside0.mk (ho);clear HB;clear HO157;have HB:=n0_;have HO160:=n1_;clear n0_ n1_;clear ho hb hg hat))
  (try simp only [Act.put,List.setIfInBounds_toArray,List.set_cons_zero,List.set_cons_succ])
  go_cut [1] (fun v1 wc=>∃ (kq:Nat) (x1_3:Int),v1 = .int .i64 x1_3∧Aside0 (spec_PutNum.j0 kq x1_3 y158=some r)∧Aside0 (kq≤k)∧Aside0 (Kd.R (Kd.int .u8) 5 wc w.heap.size (fun _=>True) v159 y158)∧Aside0 (Below w.heap.size w wc))
  case first=>
   have H:=HC4.out
   clear HC4
   by_cases c8:a1 > 1000000000
   ·rw [if_pos c8] at H
    have c8b0:decide (1000000000 < a1)=true:=decide_eq_true c8
    clear c8
    (first|rw [c8b0]|(simp only [i64_w,i32_w];rw [c8b0])|skip)
    have H':=Aside0.mk H
    clear H
    go_wp2
    go_meet
    case rel=>exact ⟨_,(1000000000),rd_,H',⟨by first|omega|exact Nat.le_refl _⟩,⟨rR HO160⟩,⟨be⟩⟩
   ·rw [if_neg c8] at H
    have c8b0:decide (1000000000 < a1)=false:=decide_eq_false c8
    clear c8
    (first|rw [c8b0]|(simp only [i64_w,i32_w];rw [c8b0])|skip)
    have H':=Aside0.mk H
    clear H
    go_wp2
    go_meet
    case rel=>exact ⟨_,(a1),rd_,H',⟨by first|omega|exact Nat.le_refl _⟩,⟨rR HO160⟩,⟨be⟩⟩
  case rest=>
   clear HC4
   try clear p2
   try clear c3
   try clear c8
   try clear c8b0
   obtain ⟨kq,x1_3,rfl,HA,HJ3,HO_5,HB⟩:=hcut
   cases kq with
   | zero=>exact absurd HA.out (by simp [spec_PutNum.j0])
   | succ kj3=>
    have H:=HA.out
    clear HA
    simp only [spec_PutNum.j0] at H
    have HC9:=Aside0.mk H
    clear H
    go_upto_if 12 with (fail)
    go_cut [1] (fun v1 wc=>∃ (kq:Nat) (x1_8:Int),v1 = .int .i64 x1_8∧Aside0 (spec_PutNum.j1 kq x1_8 y158=some r)∧Aside0 (kq≤kj3)∧Aside0 (Kd.R (Kd.int .u8) 5 wc w.heap.size (fun _=>True) v159 y158)∧Aside0 (Below w.heap.size w wc))
    case first=>
     have H:=HC9.out
     clear HC9
     by_cases c10:x1_3 < 0
     ·rw [if_pos c10] at H
      have c10b0:decide (x1_3 < 0)=true:=decide_eq_true c10
      clear c10
      (first|rw [c10b0]|(simp only [i64_w,i32_w];rw [c10b0])|skip)
      have H':=Aside0.mk H
      clear H
      go_wp2
      go_meet
      case rel=>exact ⟨_,(0),rd_,H',⟨by have:=HJ3.out;first|omega|exact Nat.le_refl _⟩,⟨rR HO_5⟩,⟨be⟩⟩
     ·rw [if_neg c10] at H
      have c10b0:decide (x1_3 < 0)=false:=decide_eq_false c10
      clear c10
      (first|rw [c10b0]|(simp only [i64_w,i32_w];rw [c10b0])|skip)
      have H':=Aside0.mk H
      clear H
      go_wp2
      go_meet
      case rel=>exact ⟨_,(x1_3),rd_,H',⟨by have:=HJ3.out;first|omega|exact Nat.le_refl _⟩,⟨rR HO_5⟩,⟨be⟩⟩
    case rest=>
     clear HC9
     try clear c1
     try clear p2
     try clear c3
     try clear c8
     try clear c8b0
     try clear c10
     try clear c10b0
     try clear p2
     obtain ⟨kq,x1_8,rfl,HA,HJ8,HO_5,HB⟩:=hcut
     cases kq with
     | zero=>exact absurd HA.out (by simp [spec_PutNum.j1])
     | succ kj8=>
      have H:=HA.out
      clear HA
      simp only [spec_PutNum.j1] at H
      have H':=Aside0.mk H
      clear H
      go_wp2
      go_loopg [1,5] kj8 (fun kq v1 v5 w'=>∃ (x1_3:Int) (x5_3:List Int),v1 = .int .i64 x1_3∧Aside0 (spec_PutNum.l0 kq x1_3 x5_3=some r)∧Aside0 (kq≤kj8)∧Aside0 (Kd.R (Kd.int .u8) 5 w' w.heap.size (fun _=>True) v5 x5_3)∧Aside0 (Below w.heap.size w w'))
      case atStart=>exact ⟨(x1_8),(y158),rd_,H',⟨Nat.le_refl _⟩,⟨rR HO_5⟩,⟨be⟩⟩
      case round=>
       clear H'
       try clear c1
       try clear p2
       try clear c3
       try clear c8
       try clear c8b0
       try clear c10
       try clear c10b0
       try clear p2
       obtain ⟨x1_3,x5_3,rfl,HA,HK3,HO_5,HB⟩:=hrel
       cases gk with
       | zero=>exact absurd HA.out (by simp [spec_PutNum.l0])
       | succ k3=>
        have H:=HA.out
        clear HA
        simp only [spec_PutNum.l0] at H
        by_cases c11:x1_3 > 127
        ·rw [if_pos c11] at H
         have c11b0:decide (127 < x1_3)=true:=decide_eq_true c11
         clear c11
         by_cases c12:x5_3.length < 140737488355328
         ·rw [if_pos c12] at H
          have LMc12:=Aside0.mk c12
          clear c12
          obtain ⟨y161,hy161⟩ : ∃ y_:List Int,y_=(x5_3 ++ [(Go.bits .or .i64 (Go.bits .and .i64 x1_3 127) 128) % 256]):=⟨_,rfl⟩
          replace H:(spec_PutNum.l0 k3 (x1_3 / 128) y161)=some r:=by first|(rw [hy161];with_reducible exact H)|(have H2_:=(Option.bind_some _ _).symm.trans H;rw [hy161];with_reducible exact H2_)|(have H2_:=(Option.bind_some _ _).symm.trans H;with_reducible exact H2_)|with_reducible exact H|(rw [hy161];exact H)|exact H
          have Ny161:=Aside0.mk hy161
          clear hy161
          have H':=Aside0.mk H
          clear H
          go_wp2_with (first|((with_reducible refine gate_builtin (b:=.append) (xs:=#[.tmp 15,.tmp 20]) rfl ?_);at_builtin;refine Kd.R_append (Kd.int .u8) (w0:=w) w.heap.size rfl (.tmp 15) (.tmp 20) 54 5 (.int .u8 0) 1 rfl Try.underlying54 info5 rfl (by decide) (by omega) u5 x5_3 ((Go.bits .or .i64 (Go.bits .and .i64 x1_3 127) 128) % 256) [.int .u8 ((Go.bits .or .i64 (Go.bits .and .i64 x1_3 127) 128) % 256)] (fun _=>True) (fun _=>False) rfl rfl ?aP (fun _ hk=>hk.elim) ?aF ?aO ?aB ?aS ?aL ?_;(case aP=>exact rfl);(case aB=>exact be);(case aF=>exact (fun _ _=>trivial));(case aO=>exact (rR HO_5));(case aS=>exact (below_size be));(case aL=>have:=LMc12.out;omega);intro v162 w13 ho hb hg hat;rw [← Ny161.out] at ho;have n0_:=Aside0.mk (hb);have n1_:=Aside0.mk (ho);clear HB;clear HO_5;have HB:=n0_;have HO163:=n1_;clear n0_ n1_;clear ho hb hg hat))
          go_roundg k3
          case measure=>have:=HJ3.out;have:=HJ8.out;have:=HK3.out;omega
          case rel=>exact ⟨(x1_3 / 128),(y161),rd_,H',⟨by have:=HJ3.out;have:=HJ8.out;have:=HK3.out;omega⟩,⟨rR HO163⟩,⟨be⟩⟩
         ·rw [if_neg c12] at H
          exact absurd H (by simp)
        ·rw [if_neg c11] at H
         have c11b0:decide (127 < x1_3)=false:=decide_eq_false c11
         clear c11
         by_cases c14:x5_3.length < 140737488355328
         ·rw [if_pos c14] at H
          have LMc14:=Aside0.mk c14
          clear c14
          obtain ⟨y164,hy164⟩ : ∃ y_:List Int,y_=(x5_3 ++ [(x1_3) % 256]):=⟨_,rfl⟩
          replace H:(some y164)=some r:=by first|(rw [hy164];with_reducible exact H)|(have H2_:=(Option.bind_some _ _).symm.trans H;rw [hy164];with_reducible exact H2_)|(have H2_:=(Option.bind_some _ _).symm.trans H;with_reducible exact H2_)|with_reducible exact H|(rw [hy164];exact H)|exact H
          have Ny164:=Aside0.mk hy164
          clear hy164
          obtain rfl:=Option.some.inj H
          go_wp2_with (first|((with_reducible refine gate_builtin (b:=.append) (xs:=#[.tmp 24,.tmp 27]) rfl ?_);at_builtin;refine Kd.R_append (Kd.int .u8) (w0:=w) w.heap.size rfl (.tmp 24) (.tmp 27) 54 5 (.int .u8 0) 1 rfl Try.underlying54 info5 rfl (by decide) (by omega) u5 x5_3 ((x1_3) % 256) [.int .u8 ((x1_3) % 256)] (fun _=>True) (fun _=>False) rfl rfl ?aP (fun _ hk=>hk.elim) ?aF ?aO ?aB ?aS ?aL ?_;(case aP=>exact rfl);(case aB=>exact be);(case aF=>exact (fun _ _=>trivial));(case aO=>exact (rR HO_5));(case aS=>exact (below_size be));(case aL=>have:=LMc14.out;omega);intro v165 w15 ho hb hg hat;rw [← Ny164.out] at ho;have n0_:=Aside0.mk (hb);have n1_:=Aside0.mk (ho);clear HB;clear HO_5;have HB:=n0_;have HO166:=n1_;clear n0_ n1_;clear ho hb hg hat))
          go_ret
          exact ⟨_,rz,rR HO166,be⟩
         ·rw [if_neg c14] at H
          exact absurd H (by simp)
 ·rw [if_neg c3] at H
  exact absurd H (by simp)
def spec_PutText.f (k:Nat) (l0:List Int) (a1:ByteArray):Option (List Int):=(spec_PutNum.f k l0 (a1.size:Int)).bind fun t167=>(if t167.length+a1.size < 140737488355328 then (some (t167 ++ bytesOf a1)) else (none))
set_option maxHeartbeats 8000000 in
set_option maxRecDepth 100000 in
theorem spec_PutText.calls (k:Nat) (A0:Option Addr) (c0:Nat) (l0:List Int) (a1:ByteArray) (r:List Int) (w:World) (hr0:Kd.C (Kd.int .u8) w A0 l0.length l0) (hc0:l0.length≤c0) (h:spec_PutText.f k l0 a1=some r) :
  Calls Try.prog 87 #[.slice A0 l0.length c0,.string a1] w fun e w'=>∃ v0_:Value,e = .returned (v0_)∧Kd.R (Kd.int .u8) 5 w' w.heap.size (fun _=>True) v0_ r∧Below w.heap.size w w':=by
 have HR0:=Aside0.mk hr0
 have HC0:=Aside0.mk hc0
 clear hr0 hc0
 have HB:=Aside0.mk (Below.refl w.heap.size w)
 have H:((spec_PutNum.f k l0 (a1.size:Int)).bind fun t167=>(if t167.length+a1.size < 140737488355328 then (some (t167 ++ bytesOf a1)) else (none)))=some r:=h
 clear h
 replace H:=Option.bind_eq_some_iff.mp H
 obtain ⟨t167,A30,H⟩:=H
 try dsimp only at H
 have A3:=Aside0.mk A30
 clear A30
 by_cases c4:t167.length+a1.size < 140737488355328
 ·rw [if_pos c4] at H
  have LMc4:=Aside0.mk c4
  clear c4
  obtain ⟨y170,hy170⟩ : ∃ y_:List Int,y_=(t167 ++ bytesOf a1):=⟨_,rfl⟩
  replace H:(some y170)=some r:=by first|(rw [hy170];with_reducible exact H)|(have H2_:=(Option.bind_some _ _).symm.trans H;rw [hy170];with_reducible exact H2_)|(have H2_:=(Option.bind_some _ _).symm.trans H;with_reducible exact H2_)|with_reducible exact H|(rw [hy170];exact H)|exact H
  have Ny170:=Aside0.mk hy170
  clear hy170
  obtain rfl:=Option.some.inj H
  go_enter Try.func87,Try.ntmps87
  go_wp2_with (first|((with_reducible refine gate_callee (f:=88) rfl ?_);refine goesL_ (some 8) rfl rfl Try.func88 (by kernel_rfl) rfl #[.slice A0 l0.length c0,.int .i64 (a1.size:Int)] rfl (by (try simp only [List.map_toArray,List.map_cons,List.map_nil]);first|done|rfl|(simp only [List.length_drop,List.length_take];rfl)) ?_;(with_reducible refine (spec_PutNum.calls k _ _ l0 (a1.size:Int) t167 _ ?side1 ?side2 A3.out).mono ?_);(case side1=>exact sC HR0);(case side2=>exact HC0.out);rintro e w5 ⟨v168,rfl,ho0,hb⟩;refine ⟨_,rfl,?_⟩;have n0_:=Aside0.mk (Kd.R_lower ho0 (below_size be));have n1_:=bs hb;clear HB;have HO169:=n0_;have HB:=n1_;clear n0_ n1_;(try clear hb);(try clear hb2);(try clear hk);(try clear hi);(try clear ho0))|(at_builtin;refine Aid.append_str_at (w0:=w) w.heap.size rfl (.tmp 8) _ 54 9 5 rfl Try.underlying54 Try.underlying9 info5 v168 t167 a1 rfl rfl ?aO ?aB ?aS ?aL ?_;(case aB=>exact be);(case aO=>exact (Kd.own_of_R (rR HO169)));(case aS=>exact (below_size be));(case aL=>have:=LMc4.out;omega);intro v171 w6 ho0 hb hg hat;have ho:=Kd.R_of_own (h1:=fun _=>rfl) (ok:=(fun _=>True)) ho0 (fun k_ hk_=>Or.elim hat (fun he_=>trivial) (fun ⟨_,hb1_,hb2_⟩=>(fun _ _=>trivial) k_ (Option.some.inj (hb1_.symm.trans hk_) ▸ hb2_)));clear ho0;rw [← Ny170.out] at ho;change Kd.R (Kd.int .u8) 5 w6 w.heap.size (fun _=>True) v171 y170 at ho;have n0_:=Aside0.mk (hb);have n1_:=Aside0.mk (ho);clear HB;clear HO169;have HB:=n0_;have HO172:=n1_;clear n0_ n1_;clear ho hb hg hat))
  go_ret
  exact ⟨_,rz,rR HO172,be⟩
 ·rw [if_neg c4] at H
  exact absurd H (by simp)
def spec_l8Stamp.f (k:Nat) (l0:List Int) (a1_0:Int) (a1_1:Int) (a1_2:Int):Option (List Int):=(spec_PutNum.f k l0 a1_0).bind fun t174=>((spec_PutNum.f k t174 a1_1).bind fun t177=>((spec_PutNum.f k t177 a1_2).bind fun t180=>(some t180)))
def spec_l8Stamp.T1:Bool × List (List Nat × List Nat):=(true,[([],[]),([],[]),([1],[1]),([0,2],[0,2]),([],[]),([4],[4]),([3,5,3],[3,5]),([],[]),([7],[7]),([6,8,6],[6,8]),([9,9,0,1,2,3,4,5,6,7,8,9],[9])])
def spec_l8Stamp.B1:List Nat:=[0,0,2,7,0,16,63,0,128,511,1023]
theorem spec_l8Stamp.tab1:rtab .any (opsOf Try.f89 1)=spec_l8Stamp.T1:=by kernel_rfl
theorem spec_l8Stamp.bits1:waitsOk spec_l8Stamp.T1.2 spec_l8Stamp.B1=true:=by kernel_rfl
set_option maxHeartbeats 8000000 in
set_option maxRecDepth 100000 in
theorem spec_l8Stamp.calls (k:Nat) (A0:Option Addr) (c0:Nat) (l0:List Int) (a1_0:Int) (a1_1:Int) (a1_2:Int) (r:List Int) (w:World) (hr0:Kd.C (Kd.int .u8) w A0 l0.length l0) (hc0:l0.length≤c0) (h:spec_l8Stamp.f k l0 a1_0 a1_1 a1_2=some r) :
  Calls Try.prog 89 #[.slice A0 l0.length c0,.agg #[.int .i64 a1_0,.int .i64 a1_1,.int .i64 a1_2]] w fun e w'=>∃ v0_:Value,e = .returned (v0_)∧Kd.R (Kd.int .u8) 5 w' w.heap.size (fun _=>True) v0_ r∧Below w.heap.size w w':=by
 have hu59:=Try.underlying59
 have HR0:=Aside0.mk hr0
 have HC0:=Aside0.mk hc0
 clear hr0 hc0
 have HB:=Aside0.mk (Below.refl w.heap.size w)
 have H:((spec_PutNum.f k l0 a1_0).bind fun t174=>((spec_PutNum.f k t174 a1_1).bind fun t177=>((spec_PutNum.f k t177 a1_2).bind fun t180=>(some t180))))=some r:=h
 clear h
 replace H:=Option.bind_eq_some_iff.mp H
 obtain ⟨t174,A30,H⟩:=H
 try dsimp only at H
 have A3:=Aside0.mk A30
 clear A30
 replace H:=Option.bind_eq_some_iff.mp H
 obtain ⟨t177,A40,H⟩:=H
 try dsimp only at H
 have A4:=Aside0.mk A40
 clear A40
 replace H:=Option.bind_eq_some_iff.mp H
 obtain ⟨t180,A50,H⟩:=H
 try dsimp only at H
 have A5:=Aside0.mk A50
 clear A50
 obtain rfl:=Option.some.inj H
 go_enter Try.func89,Try.ntmps89
 try go_wp2_with (first|((with_reducible refine gate_dst (N:=3) rfl ?_);refine box_event ?hg (N:=3) ?hd (cs:=#[.int .i64 a1_0,.int .i64 a1_1,.int .i64 a1_2]) (t:=59) ?hr ?_;(case hd=>rfl);(case hg=>rfl);(case hr=>first|(go_simp;done)|(go_simp;rfl));intro gb173 hg w6 hbox hb;have n0_:=bs hb;have n1_:=Aside0.mk (hbox);have n2_:=Aside0.mk ((by rw [hg];exact (below_size be):w.heap.size≤gb173));have n3_:=Aside0.mk ((by rw [hg];exact (below_size be):w.heap.size≤gb173));clear HB;have HB:=n0_;have BK173:=n1_;have GW173:=n2_;have GE173:=n3_;clear n0_ n1_ n2_ n3_;clear hb hbox hg))
 have n0_:=Aside0.mk (blk_drew BK173.out);have n1_:=Aside0.mk (below_drew1 HB.out);clear BK173 HB;have BK173:=n0_;have HB:=n1_;clear n0_ n1_
 refine start_ (n:=11) (S:=fun w'=>w'.cell? ⟨gb173,0,none⟩=some (.int .i64 a1_0)∧w'.cell? ⟨gb173,1,none⟩=some (.int .i64 a1_1)∧w'.cell? ⟨gb173,2,none⟩=some (.int .i64 a1_2)) (ds:=[]) (fl 11 0) (by kernel_rfl) rfl rfl ⟨(blk_cell BK173.out 0).trans rfl,(blk_cell BK173.out 1).trans rfl,(blk_cell BK173.out 2).trans rfl⟩ (fun hHeld=>?_);refine with_tabW spec_l8Stamp.tab1 spec_l8Stamp.bits1 (fun HT_ HW_=>?_)
 generalize w6.drew=w7 at BK173 HB hHeld ⊢
 refine pt 0 5 (fl 11 1) HT_ ?_
 refine pt 1 6 (fl 11 3) HT_ ?_
 refine pt 4 9 (fl 11 19) HT_ ?_
 refine pt 7 12 (fl 11 147) HT_ ?_
 refine tt 2 7 (fl 11 151) HT_ HW_ hHeld ?_
 refine tt 5 10 (fl 11 183) HT_ HW_ hHeld ?_
 refine tt 8 13 (fl 11 439) HT_ HW_ hHeld ?_
 refine ot 3 (some 8) (fl 11 447) HT_ (fun K hK=>?_)
 refine goes_ Try.func88 (by kernel_rfl) rfl #[.slice A0 l0.length c0,.int .i64 a1_0] (by rfl) rfl rfl (by (try simp only [List.map_toArray,List.map_cons,List.map_nil]);first|done|rfl|(simp only [List.length_drop,List.length_take];rfl)) ?_
 with_reducible refine (spec_PutNum.calls k _ _ l0 a1_0 t174 _ ?side1 ?side2 A3.out).mono ?_
 (case side1=>exact rC HR0)
 (case side2=>exact HC0.out)
 rintro e w8 ⟨v175,rfl,ho0,hb⟩
 refine ⟨_,rfl,?_⟩
 have n0_:=Aside0.mk (Kd.R_lower ho0 (below_size be));have n1_:=Aside0.mk (blk_below (bk BK173) hb);have n2_:=bs hb;clear BK173 HB;have HO176:=n0_;have BK173:=n1_;have HB:=n2_;clear n0_ n1_ n2_;(try clear hb);(try clear hb2);(try clear hk);(try clear hi);(try clear ho0)
 obtain ⟨Ao9,co9,eo9⟩:=Kd.R_slice HO176.out
 (first|subst eo9|(injection eo9 with f1_ f2_ f3_;have f4_:=f1_.symm;have f5_:=f3_.symm;clear f1_ f2_ f3_;subst f4_;subst f5_))
 refine hK.out _ _ ⟨(blk_cell BK173.out 0).trans rfl,(blk_cell BK173.out 1).trans rfl,(blk_cell BK173.out 2).trans rfl⟩ (fun hHeld=>?_)
 clear hK K
 refine no 8 ?_
 refine ot 6 (some 11) (fl 11 511) HT_ (fun K hK=>?_)
 refine goes_ Try.func88 (by kernel_rfl) rfl #[.slice Ao9 t174.length co9,.int .i64 a1_1] (by rfl) rfl rfl (by (try simp only [List.map_toArray,List.map_cons,List.map_nil]);first|done|rfl|(simp only [List.length_drop,List.length_take];rfl)) ?_
 with_reducible refine (spec_PutNum.calls k _ _ t174 a1_1 t177 _ ?side1 ?side2 A4.out).mono ?_
 (case side1=>exact sR HO176)
 (case side2=>exact (Kd.R_reads' HO176.out).2.1)
 rintro e w10 ⟨v178,rfl,ho0,hb⟩
 refine ⟨_,rfl,?_⟩
 have n0_:=Aside0.mk (Kd.R_elder' (rR HO176) (Kd.R_base ho0) hb);have n1_:=Aside0.mk (Kd.R_lower (Kd.R_new' ho0 (Kd.R_lt (rR HO176))) (below_size be));have n2_:=Aside0.mk (blk_below (bk BK173) hb);have n3_:=bs hb;clear HO176 BK173 HB;have HO176:=n0_;have HO179:=n1_;have BK173:=n2_;have HB:=n3_;clear n0_ n1_ n2_ n3_;(try clear hb);(try clear hb2);(try clear hk);(try clear hi);(try clear ho0)
 obtain ⟨Ao11,co11,eo11⟩:=Kd.R_slice HO179.out
 (first|subst eo11|(injection eo11 with f1_ f2_ f3_;have f4_:=f1_.symm;have f5_:=f3_.symm;clear f1_ f2_ f3_;subst f4_;subst f5_))
 refine hK.out _ _ ⟨(blk_cell BK173.out 0).trans rfl,(blk_cell BK173.out 1).trans rfl,(blk_cell BK173.out 2).trans rfl⟩ (fun hHeld=>?_)
 clear hK K
 refine no 11 ?_
 refine ot 9 (some 14) (fl 11 1023) HT_ (fun K hK=>?_)
 refine goes_ Try.func88 (by kernel_rfl) rfl #[.slice Ao11 t177.length co11,.int .i64 a1_2] (by rfl) rfl rfl (by (try simp only [List.map_toArray,List.map_cons,List.map_nil]);first|done|rfl|(simp only [List.length_drop,List.length_take];rfl)) ?_
 with_reducible refine (spec_PutNum.calls k _ _ t177 a1_2 t180 _ ?side1 ?side2 A5.out).mono ?_
 (case side1=>exact sR HO179)
 (case side2=>exact (Kd.R_reads' HO179.out).2.1)
 rintro e w12 ⟨v181,rfl,ho0,hb⟩
 refine ⟨_,rfl,?_⟩
 have n0_:=Aside0.mk (Kd.R_elder' (rR HO176) (Kd.R_base ho0) hb);have n1_:=Aside0.mk (Kd.R_elder' (rR HO179) (Kd.R_base ho0) hb);have n2_:=Aside0.mk (Kd.R_lower (Kd.R_new' (Kd.R_new' ho0 (Kd.R_lt (rR HO176))) (Kd.R_lt (rR HO179))) (below_size be));have n3_:=Aside0.mk (blk_below (bk BK173) hb);have n4_:=bs hb;clear HO176 HO179 BK173 HB;have HO176:=n0_;have HO179:=n1_;have HO182:=n2_;have BK173:=n3_;have HB:=n4_;clear n0_ n1_ n2_ n3_ n4_;(try clear hb);(try clear hb2);(try clear hk);(try clear hi);(try clear ho0)
 refine hK.out _ _ ⟨(blk_cell BK173.out 0).trans rfl,(blk_cell BK173.out 1).trans rfl,(blk_cell BK173.out 2).trans rfl⟩ (fun hHeld=>?_)
 clear hK K
 refine no 14 ?_
 refine pt 10 4 (fl 11 2047) HT_ ?_
 refine done_ (done_of HT_.out (by kernel_rfl)) ?_
 try go_wp2
 go_ret
 exact ⟨_,rz,by (with_reducible repeat (first|apply Kd.R_alloc|apply Kd.R_drewN|apply Kd.R_drew));exact Kd.R_mono HO182.out (fun _ hk=>trivial),be⟩
def spec_l8Bool.f (a0:Bool):Option (Int):=if a0=true then (some 1) else (some 0)
set_option maxHeartbeats 8000000 in
set_option maxRecDepth 100000 in
theorem spec_l8Bool.calls (a0:Bool) (r:Int) (w:World) (h:spec_l8Bool.f a0=some r) :
  Calls Try.prog 90 #[.bool a0] w fun e w'=>e = .returned (.int .i64 r)∧Drawn0 w w':=by
 have H:(if a0=true then (some 1) else (some 0))=some r:=h
 clear h
 by_cases c2:a0=true
 ·subst c2
  rw [if_pos rfl] at H
  obtain rfl:=Option.some.inj H
  go_enter Try.func90,Try.ntmps90
  go_wp2
  go_ret
  exact ⟨by first|rfl|(simp;done)|(simp [*];done),by repeat (first|exact Drawn0.refl _|apply Drawn0.step)⟩
 ·replace c2:=Bool.eq_false_iff.mpr c2
  subst c2
  replace H:=(if_neg (show ¬ (false=true) by decide)).symm.trans H
  obtain rfl:=Option.some.inj H
  go_enter Try.func90,Try.ntmps90
  go_wp2
  go_ret
  exact ⟨by first|rfl|(simp;done)|(simp [*];done),by repeat (first|exact Drawn0.refl _|apply Drawn0.step)⟩
mutual
def spec_Crc.l0:Nat→List Int→Int→Int→Option (Int)
 | 0,_,_,_=>none
 | k+1,x0,x3,x4=>if x4 < (x0.length:Int) then (if 0≤x4 then (spec_Crc.l1 k x0 (Go.bits .xor .i64 x3 (wrap64 (rd x0 x4))) x4 0) else (none)) else (some (Go.bits .xor .i64 x3 4294967295))
def spec_Crc.l1:Nat→List Int→Int→Int→Int→Option (Int)
 | 0,_,_,_,_=>none
 | k+1,x0,x3,x4,x5=>if x5 < 8 then (if (Go.bits .and .i64 x3 1)=1 then (spec_Crc.l1 k x0 (Go.bits .xor .i64 (x3 / 2) 2197175160) x4 (wrap64 (x5+1))) else (spec_Crc.l1 k x0 (x3 / 2) x4 (wrap64 (x5+1)))) else (spec_Crc.l0 k x0 x3 (wrap64 (x4+1)))
end
def spec_Crc.f (k:Nat) (l0:List Int):Option (Int):=spec_Crc.l0 k l0 4294967295 0
set_option maxHeartbeats 8000000 in
set_option maxRecDepth 100000 in
theorem spec_Crc.calls (k:Nat) (A0:Option Addr) (c0:Nat) (l0:List Int) (r:Int) (w:World) (hr0:Kd.C (Kd.int .u8) w A0 l0.length l0) (hc0:l0.length≤c0) (h:spec_Crc.f k l0=some r) :
  Calls Try.prog 91 #[.slice A0 l0.length c0] w fun e w'=>e = .returned (.int .i64 r)∧Drawn0 w w':=by
 have HR0:=Aside0.mk hr0
 have HC0:=Aside0.mk hc0
 clear hr0 hc0
 have H:(spec_Crc.l0 k l0 4294967295 0)=some r:=h
 clear h
 have H':=Aside0.mk H
 clear H
 go_enter Try.func91,Try.ntmps91
 go_wp2
 go_loopg [3,4] k (fun kq v3 v4 w'=>∃ (x3_1:Int) (x4_1:Int),v3 = .int .i64 x3_1∧v4 = .int .i64 x4_1∧Aside0 (spec_Crc.l0 kq l0 x3_1 x4_1=some r)∧Aside0 (kq≤k)∧Drawn0 w w')
 case atStart=>exact ⟨(4294967295),(0),rd_,rd_,H',⟨Nat.le_refl _⟩,by repeat (first|exact Drawn0.refl _|apply Drawn0.step)⟩
 case round=>
  clear H'
  obtain ⟨x3_1,x4_1,rfl,rfl,HA,HK1,⟨m1,rfl⟩⟩:=hrel
  cases gk with
  | zero=>exact absurd HA.out (by simp [spec_Crc.l0])
  | succ k1=>
   have H:=HA.out
   clear HA
   simp only [spec_Crc.l0] at H
   by_cases c2:x4_1 < (l0.length:Int)
   ·rw [if_pos c2] at H
    have c2b0:decide (x4_1 < (l0.length:Int))=true:=decide_eq_true c2
    clear c2
    by_cases c3:0≤x4_1
    ·rw [if_pos c3] at H
     have c3b0:decide (0≤x4_1)=true:=decide_eq_true c3
     clear c3
     have H':=Aside0.mk H
     clear H
     have p183:0≤(x4_1:Int):=of_decide_eq_true (by first|(with_reducible assumption)|assumption)
     have q183:x4_1 < (l0.length:Int):=of_decide_eq_true (by first|(with_reducible assumption)|assumption)
     obtain ⟨ad183,e183,hx183_0⟩:=Kd.at_int HR0.out x4_1 p183 q183
     cases e183
     replace p183:=eq_true p183
     replace q183:=eq_true q183
     go_wp2
     go_loopg [3,5] k1 (fun kq v3 v5 w'=>∃ (x3_2:Int) (x5_2:Int),v3 = .int .i64 x3_2∧v5 = .int .i64 x5_2∧Aside0 (spec_Crc.l1 kq l0 x3_2 x4_1 x5_2=some r)∧Aside0 (kq≤k1)∧Drawn0 w w')
     case atStart=>exact ⟨(Go.bits .xor .i64 x3_1 (wrap64 (rd l0 x4_1))),(0),rd_,rd_,H',⟨Nat.le_refl _⟩,by repeat (first|exact Drawn0.refl _|apply Drawn0.step)⟩
     case round=>
      clear H'
      try clear p1
      try clear q1
      try clear hx1
      try clear c2
      try clear c2b0
      try clear p2
      try clear c3
      try clear c3b0
      try clear hx183_0
      try clear p183
      try clear q183
      obtain ⟨x3_2,x5_2,rfl,rfl,HA,HK2,⟨m2,rfl⟩⟩:=hrel
      cases gk with
      | zero=>exact absurd HA.out (by simp [spec_Crc.l1])
      | succ k2=>
       have H:=HA.out
       clear HA
       simp only [spec_Crc.l1] at H
       by_cases c4:x5_2 < 8
       ·rw [if_pos c4] at H
        have c4b0:decide (x5_2 < 8)=true:=decide_eq_true c4
        clear c4
        by_cases c5:(Go.bits .and .i64 x3_2 1)=1
        ·rw [if_pos c5] at H
         have c5b0:((Go.bits .and .i64 x3_2 1) == 1)=true:=beq_iff_eq.mpr c5
         have c5b1:((Go.bits .and .i64 x3_2 1) != 1)=false:=bne_eq_false_iff_eq.mpr c5
         clear c5
         have H':=Aside0.mk H
         clear H
         go_wp2
         go_roundg k2
         case measure=>have:=HK1.out;have:=HK2.out;omega
         case rel=>exact ⟨(Go.bits .xor .i64 (x3_2 / 2) 2197175160),(wrap64 (x5_2+1)),rd_,rd_,H',⟨by have:=HK1.out;have:=HK2.out;omega⟩,by repeat (first|exact Drawn0.refl _|apply Drawn0.step)⟩
        ·rw [if_neg c5] at H
         have c5b0:((Go.bits .and .i64 x3_2 1) == 1)=false:=beq_eq_false_iff_ne.mpr c5
         have c5b1:((Go.bits .and .i64 x3_2 1) != 1)=true:=bne_iff_ne.mpr c5
         have H':=Aside0.mk H
         clear H
         go_wp2
         go_roundg k2
         case measure=>have:=HK1.out;have:=HK2.out;omega
         case rel=>exact ⟨(x3_2 / 2),(wrap64 (x5_2+1)),rd_,rd_,H',⟨by have:=HK1.out;have:=HK2.out;omega⟩,by repeat (first|exact Drawn0.refl _|apply Drawn0.step)⟩
       ·rw [if_neg c4] at H
        have c4b0:decide (x5_2 < 8)=false:=decide_eq_false c4
        clear c4
        have H':=Aside0.mk H
        clear H
        go_wp2
        go_roundg k2
        case measure=>have:=HK1.out;have:=HK2.out;omega
        case rel=>exact ⟨(x3_2),(wrap64 (x4_1+1)),rd_,rd_,H',⟨by have:=HK1.out;have:=HK2.out;omega⟩,by repeat (first|exact Drawn0.refl _|apply Drawn0.step)⟩
    ·rw [if_neg c3] at H
     exact absurd H (by simp)
   ·rw [if_neg c2] at H
    have c2b0:decide (x4_1 < (l0.length:Int))=false:=decide_eq_false c2
    clear c2
    obtain rfl:=Option.some.inj H
    go_wp2
    go_ret
    exact ⟨by first|rfl|(simp;done)|(simp [*];done),by repeat (first|exact Drawn0.refl _|apply Drawn0.step)⟩
def spec_PutFile.f (k:Nat) (a0_0:Int) (a0_1:Int) (a0_2:Int) (a0_3:Bool) (l0_4:List Int):Option (List Int):=(spec_FileOk.f a0_0 a0_1 a0_2 a0_3 l0_4).bind fun t185=>(if t185=true then ((spec_l8Stamp.f k (([]:List Int)) a0_0 a0_1 a0_2).bind fun t192=>((spec_l8Bool.f a0_3).bind fun t195=>((spec_PutNum.f k t192 t195).bind fun t196=>((spec_PutText.f k t196 (strOfNums l0_4)).bind fun t199=>((spec_Crc.f k t199).bind fun t202=>((some (([(t202 / 16777216) % 256,(t202 / 65536) % 256,(t202 / 256) % 256,(t202) % 256]:List Int):List Int)).bind fun y203=>(if t199.length+y203.length < 140737488355328 then (some (t199 ++ y203)) else (none)))))))) else (some (([]:List Int))))
def spec_PutFile.T3:Bool × List (List Nat × List Nat):=(true,[([],[]),([],[]),([1],[1]),([0,2],[0,2]),([],[]),([4],[4]),([5,3],[5]),([3,6,6],[3,6]),([],[]),([8],[8]),([9],[9]),([7,10,7],[7,10]),([11,11,0,1,2,3,4,5,6,7,8,9,10,11],[11])])
def spec_PutFile.B3:List Nat:=[0,0,2,7,0,16,63,127,0,256,768,2047,4095]
theorem spec_PutFile.tab3:rtab .any (opsOf Try.f35 3)=spec_PutFile.T3:=by kernel_rfl
theorem spec_PutFile.bits3:waitsOk spec_PutFile.T3.2 spec_PutFile.B3=true:=by kernel_rfl
set_option maxHeartbeats 8000000 in
set_option maxRecDepth 100000 in
theorem spec_PutFile.calls (k:Nat) (a0_0:Int) (a0_1:Int) (a0_2:Int) (a0_3:Bool) (A0_4:Option Addr) (c0_4:Nat) (l0_4:List Int) (r:List Int) (w:World) (hr0_4:Kd.C (Kd.int .u8) w A0_4 l0_4.length l0_4) (hc0_4:l0_4.length≤c0_4) (h:spec_PutFile.f k a0_0 a0_1 a0_2 a0_3 l0_4=some r) :
  Calls Try.prog 35 #[.agg #[.int .i64 a0_0,.int .i64 a0_1,.int .i64 a0_2,.bool a0_3,.slice A0_4 l0_4.length c0_4]] w fun e w'=>∃ v0_:Value,e = .returned (v0_)∧Kd.R (Kd.int .u8) 5 w' w.heap.size (fun _=>True) v0_ r∧Below w.heap.size w w':=by
 have hu61:=Try.underlying61
 have hu59:=Try.underlying59
 have HR0_4:=Aside0.mk hr0_4
 have HC0_4:=Aside0.mk hc0_4
 clear hr0_4 hc0_4
 have HB:=Aside0.mk (Below.refl w.heap.size w)
 have H:((spec_FileOk.f a0_0 a0_1 a0_2 a0_3 l0_4).bind fun t185=>(if t185=true then ((spec_l8Stamp.f k (([]:List Int)) a0_0 a0_1 a0_2).bind fun t192=>((spec_l8Bool.f a0_3).bind fun t195=>((spec_PutNum.f k t192 t195).bind fun t196=>((spec_PutText.f k t196 (strOfNums l0_4)).bind fun t199=>((spec_Crc.f k t199).bind fun t202=>((some (([(t202 / 16777216) % 256,(t202 / 65536) % 256,(t202 / 256) % 256,(t202) % 256]:List Int):List Int)).bind fun y203=>(if t199.length+y203.length < 140737488355328 then (some (t199 ++ y203)) else (none)))))))) else (some (([]:List Int)))))=some r:=h
 clear h
 replace H:=Option.bind_eq_some_iff.mp H
 obtain ⟨t185,A20,H⟩:=H
 try dsimp only at H
 have A2:=Aside0.mk A20
 clear A20
 by_cases c3:t185=true
 ·subst c3
  rw [if_pos rfl] at H
  obtain ⟨y189,hy189⟩ : ∃ y_:List Int,y_=(([]:List Int)):=⟨_,rfl⟩
  replace H:((spec_l8Stamp.f k y189 a0_0 a0_1 a0_2).bind fun t192=>((spec_l8Bool.f a0_3).bind fun t195=>((spec_PutNum.f k t192 t195).bind fun t196=>((spec_PutText.f k t196 (strOfNums l0_4)).bind fun t199=>((spec_Crc.f k t199).bind fun t202=>((some (([(t202 / 16777216) % 256,(t202 / 65536) % 256,(t202 / 256) % 256,(t202) % 256]:List Int):List Int)).bind fun y203=>(if t199.length+y203.length < 140737488355328 then (some (t199 ++ y203)) else (none))))))))=some r:=by first|(rw [hy189];with_reducible exact H)|(have H2_:=(Option.bind_some _ _).symm.trans H;rw [hy189];with_reducible exact H2_)|(have H2_:=(Option.bind_some _ _).symm.trans H;with_reducible exact H2_)|with_reducible exact H|(rw [hy189];exact H)|exact H
  have Ny189:=Aside0.mk hy189
  clear hy189
  replace H:=Option.bind_eq_some_iff.mp H
  obtain ⟨t192,A40,H⟩:=H
  try dsimp only at H
  have A4:=Aside0.mk A40
  clear A40
  replace H:=Option.bind_eq_some_iff.mp H
  obtain ⟨t195,A50,H⟩:=H
  try dsimp only at H
  have A5:=Aside0.mk A50
  clear A50
  replace H:=Option.bind_eq_some_iff.mp H
  obtain ⟨t196,A60,H⟩:=H
  try dsimp only at H
  have A6:=Aside0.mk A60
  clear A60
  replace H:=Option.bind_eq_some_iff.mp H
  obtain ⟨t199,A70,H⟩:=H
  try dsimp only at H
  have A7:=Aside0.mk A70
  clear A70
  replace H:=Option.bind_eq_some_iff.mp H
  obtain ⟨t202,A80,H⟩:=H
  try dsimp only at H
  have A8:=Aside0.mk A80
  clear A80
  obtain ⟨y203,hy203⟩ : ∃ y_:List Int,y_=(([(t202 / 16777216) % 256,(t202 / 65536) % 256,(t202 / 256) % 256,(t202) % 256]:List Int)):=⟨_,rfl⟩
  replace H:(if t199.length+y203.length < 140737488355328 then (some (t199 ++ y203)) else (none))=some r:=by first|(rw [hy203];with_reducible exact H)|(have H2_:=(Option.bind_some _ _).symm.trans H;rw [hy203];with_reducible exact H2_)|(have H2_:=(Option.bind_some _ _).symm.trans H;with_reducible exact H2_)|with_reducible exact H|(rw [hy203];exact H)|exact H
  have Ny203:=Aside0.mk hy203
  clear hy203
  by_cases c9:t199.length+y203.length < 140737488355328
  ·rw [if_pos c9] at H
   have LMc9:=Aside0.mk c9
   clear c9
   obtain ⟨y206,hy206⟩ : ∃ y_:List Int,y_=(t199 ++ y203):=⟨_,rfl⟩
   replace H:(some y206)=some r:=by first|(rw [hy206];with_reducible exact H)|(have H2_:=(Option.bind_some _ _).symm.trans H;rw [hy206];with_reducible exact H2_)|(have H2_:=(Option.bind_some _ _).symm.trans H;with_reducible exact H2_)|with_reducible exact H|(rw [hy206];exact H)|exact H
   have Ny206:=Aside0.mk hy206
   clear hy206
   obtain rfl:=Option.some.inj H
   go_enter Try.func35,Try.ntmps35
   try go_wp2_with (first|((with_reducible refine gate_dst (N:=1) rfl ?_);refine box_event ?hg (N:=1) ?hd (cs:=#[.int .i64 a0_0,.int .i64 a0_1,.int .i64 a0_2,.bool a0_3,.slice A0_4 l0_4.length c0_4]) (t:=61) ?hr ?_;(case hd=>rfl);(case hg=>rfl);(case hr=>first|(go_simp;done)|(go_simp;rfl));intro gb184 hg w10 hbox hb;have n0_:=bs hb;have n1_:=Aside0.mk (hbox);have n2_:=Aside0.mk ((by rw [hg];exact (below_size be):w.heap.size≤gb184));have n3_:=Aside0.mk ((by rw [hg];exact (below_size be):w.heap.size≤gb184));clear HB;have HB:=n0_;have BK184:=n1_;have GW184:=n2_;have GE184:=n3_;clear n0_ n1_ n2_ n3_;clear hb hbox hg;have hcz11_0:w10.cell? ⟨gb184,0,none⟩=some (.int .i64 a0_0):=(blk_cell BK184.out 0).trans rfl;have hcz11_1:w10.cell? ⟨gb184,1,none⟩=some (.int .i64 a0_1):=(blk_cell BK184.out 1).trans rfl;have hcz11_2:w10.cell? ⟨gb184,2,none⟩=some (.int .i64 a0_2):=(blk_cell BK184.out 2).trans rfl;have hcz11_3:w10.cell? ⟨gb184,3,none⟩=some (.bool a0_3):=(blk_cell BK184.out 3).trans rfl;have hcz11_4:w10.cell? ⟨gb184,4,none⟩=some (.slice A0_4 l0_4.length c0_4):=(blk_cell BK184.out 4).trans rfl;have hfz11_0:=blk_frozen BK184.out 0;have hfz11_1:=blk_frozen BK184.out 1;have hfz11_2:=blk_frozen BK184.out 2;have hfz11_3:=blk_frozen BK184.out 3;have hfz11_4:=blk_frozen BK184.out 4)|((with_reducible refine gate_callee (f:=86) rfl ?_);refine goesL_ (some 6) rfl rfl Try.func86 (by kernel_rfl) rfl #[.agg #[.int .i64 a0_0,.int .i64 a0_1,.int .i64 a0_2,.bool a0_3,.slice A0_4 l0_4.length c0_4]] rfl (by (try simp only [List.map_toArray,List.map_cons,List.map_nil]);first|done|rfl|(simp only [List.length_drop,List.length_take];rfl)) ?_;(with_reducible refine (spec_FileOk.calls a0_0 a0_1 a0_2 a0_3 _ _ l0_4 true _ ?side1 ?side2 A2.out).mono ?_);(case side1=>exact rC HR0_4);(case side2=>exact HC0_4.out);rintro e w12 ⟨rfl,hb⟩;refine ⟨_,rfl,?_⟩;have n0_:=Aside0.mk (blk_below (g:=gb184) (o:=.cells #[.int .i64 a0_0,.int .i64 a0_1,.int .i64 a0_2,.bool a0_3,.slice A0_4 l0_4.length c0_4] 61 (0,0)) (bk BK184) hb);have n1_:=bs hb;clear BK184;clear HB;have BK184:=n0_;have HB:=n1_;clear n0_ n1_;(try clear hb);(try clear hb2);(try clear hk);(try clear hi)))
   have n0_:=Aside0.mk (blk_drew BK184.out);have n1_:=Aside0.mk (below_drew1 HB.out);clear BK184 HB;have BK184:=n0_;have HB:=n1_;clear n0_ n1_
   refine start_ (n:=13) (S:=fun w'=>w'.cell? ⟨gb184,0,none⟩=some (.int .i64 a0_0)∧w'.cell? ⟨gb184,1,none⟩=some (.int .i64 a0_1)∧w'.cell? ⟨gb184,2,none⟩=some (.int .i64 a0_2)∧w'.cell? ⟨gb184,3,none⟩=some (.bool a0_3)∧w'.cell? ⟨gb184,4,none⟩=some (.slice A0_4 l0_4.length c0_4)∧Kd.C (Kd.int .u8) w' A0_4 l0_4.length l0_4) (ds:=[]) (fl 13 0) (by kernel_rfl) rfl rfl ⟨(blk_cell BK184.out 0).trans rfl,(blk_cell BK184.out 1).trans rfl,(blk_cell BK184.out 2).trans rfl,(blk_cell BK184.out 3).trans rfl,(blk_cell BK184.out 4).trans rfl,Kd.C_below HR0_4.out be⟩ (fun hHeld=>?_);refine with_tabW spec_PutFile.tab3 spec_PutFile.bits3 (fun HT_ HW_=>?_)
   generalize w12.drew=w13 at BK184 HB hHeld ⊢
   refine pt 1 10 (fl 13 2) HT_ ?_
   refine pt 4 13 (fl 13 18) HT_ ?_
   refine pt 8 17 (fl 13 274) HT_ ?_
   refine tt 2 11 (fl 13 278) HT_ HW_ hHeld ?_
   refine tt 5 14 (fl 13 310) HT_ HW_ hHeld ?_
   refine tt 9 18 (fl 13 822) HT_ HW_ hHeld ?_
   refine take_ (i:=10) (N:=some 19) (v:=?_) (a':=?_) (fl 13 1846) rfl rfl (take_ofW HT_.out HW_.out (by kernel_rfl)) (fun _ _ _ h=>h) (Or.inl ⟨by rfl,?_⟩) hHeld ?_ ?_
   rotate_left
   ·rintro w' ⟨s0,s1,s2,s3,s4,s5⟩
    have hcv_:=Kd.C_string (P:=Try.prog) (A:=A0_4) (c:=c0_4) Try.underlying54 Try.underlying5 Try.underlying9 s5
    go_simp
    with_reducible rfl
   rotate_left
   ·simp only [Act.put,List.setIfInBounds_toArray,List.set_cons_zero,List.set_cons_succ,i64_w,i32_w]
    rfl
   refine ot 0 (some 9) (fl 13 1847) HT_ (fun K hK=>?_)
   refine Kd.R_lit_step (Kd.int .u8) _ 5 ?hg (N:=9) ?hd (xs:=([]:List Int)) (inner:=[]) (ok:=fun _=>True) (okp:=fun _=>True) ?hr ?hp (fun _ hk=>hk) trivial (Below.refl _ _) (Nat.le_refl _) (by simp) ?_;(case hd=>rfl);(case hg=>rfl);(case hr=>first|(go_simp;done)|(go_simp;rfl));(case hp=>exact (Reps.none _ _))
   intro v190 w14 ho15 hb hg_ hnew_
   clear hg_ hnew_
   (first|rw [← Ny189.out] at ho15|(simp only [Int.reduceToNat] at ho15;rw [← Ny189.out] at ho15))
   have n0_:=Aside0.mk (Kd.R_lower ho15 (below_size be));have n1_:=Aside0.mk (blk_below (bk BK184) hb);have n2_:=bs hb;clear BK184 HB;have HO191:=n0_;have BK184:=n1_;have HB:=n2_;clear n0_ n1_ n2_ hb ho15
   obtain ⟨Ao16,co16,eo16⟩:=Kd.R_slice HO191.out
   (first|subst eo16|(injection eo16 with f1_ f2_ f3_;have f4_:=f1_.symm;have f5_:=f3_.symm;clear f1_ f2_ f3_;subst f4_;subst f5_))
   refine hK.out _ _ ⟨(blk_cell BK184.out 0).trans rfl,(blk_cell BK184.out 1).trans rfl,(blk_cell BK184.out 2).trans rfl,(blk_cell BK184.out 3).trans rfl,(blk_cell BK184.out 4).trans rfl,Kd.C_below HR0_4.out be⟩ (fun hHeld=>?_)
   clear hK K
   refine no 9 ?_
   refine ot 3 (some 12) (fl 13 1855) HT_ (fun K hK=>?_)
   refine goes_ Try.func89 (by kernel_rfl) rfl #[.slice Ao16 y189.length co16,.agg #[.int .i64 a0_0,.int .i64 a0_1,.int .i64 a0_2]] (by rfl) rfl rfl (by (try simp only [List.map_toArray,List.map_cons,List.map_nil]);first|done|rfl|(simp only [List.length_drop,List.length_take];rfl)) ?_
   with_reducible refine (spec_l8Stamp.calls k _ _ y189 a0_0 a0_1 a0_2 t192 _ ?side1 ?side2 A4.out).mono ?_
   (case side1=>exact sR HO191)
   (case side2=>exact (Kd.R_reads' HO191.out).2.1)
   rintro e w17 ⟨v193,rfl,ho0,hb⟩
   refine ⟨_,rfl,?_⟩
   have n0_:=Aside0.mk (Kd.R_elder' (rR HO191) (Kd.R_base ho0) hb);have n1_:=Aside0.mk (Kd.R_lower (Kd.R_new' ho0 (Kd.R_lt (rR HO191))) (below_size be));have n2_:=Aside0.mk (blk_below (bk BK184) hb);have n3_:=bs hb;clear HO191 BK184 HB;have HO191:=n0_;have HO194:=n1_;have BK184:=n2_;have HB:=n3_;clear n0_ n1_ n2_ n3_;(try clear hb);(try clear hb2);(try clear hk);(try clear hi);(try clear ho0)
   refine hK.out _ _ ⟨(blk_cell BK184.out 0).trans rfl,(blk_cell BK184.out 1).trans rfl,(blk_cell BK184.out 2).trans rfl,(blk_cell BK184.out 3).trans rfl,(blk_cell BK184.out 4).trans rfl,Kd.C_below HR0_4.out be⟩ (fun hHeld=>?_)
   clear hK K
   refine no 12 ?_
   refine ot 6 (some 15) (fl 13 1919) HT_ (fun K hK=>?_)
   refine goes_ Try.func90 (by kernel_rfl) rfl #[.bool a0_3] (by rfl) rfl rfl (by (try simp only [List.map_toArray,List.map_cons,List.map_nil]);first|done|rfl|(simp only [List.length_drop,List.length_take];rfl)) ?_
   with_reducible refine (spec_l8Bool.calls a0_3 t195 _ A5.out).mono ?_
   rintro e w' ⟨rfl,⟨nd,rfl⟩⟩
   refine ⟨_,rfl,?_⟩
   obtain ⟨Ao18,co18,eo18⟩:=Kd.R_slice HO194.out
   (first|subst eo18|(injection eo18 with f1_ f2_ f3_;have f4_:=f1_.symm;have f5_:=f3_.symm;clear f1_ f2_ f3_;subst f4_;subst f5_))
   refine hK.out _ _ ⟨(blk_cell BK184.out 0).trans rfl,(blk_cell BK184.out 1).trans rfl,(blk_cell BK184.out 2).trans rfl,(blk_cell BK184.out 3).trans rfl,(blk_cell BK184.out 4).trans rfl,Kd.C_below HR0_4.out be⟩ (fun hHeld=>?_)
   clear hK K
   refine no 15 ?_
   refine ot 7 (some 16) (fl 13 2047) HT_ (fun K hK=>?_)
   refine goes_ Try.func88 (by kernel_rfl) rfl #[.slice Ao18 t192.length co18,.int .i64 t195] (by rfl) rfl rfl (by (try simp only [List.map_toArray,List.map_cons,List.map_nil]);first|done|rfl|(simp only [List.length_drop,List.length_take];rfl)) ?_
   with_reducible refine (spec_PutNum.calls k _ _ t192 t195 t196 _ ?side1 ?side2 A6.out).mono ?_
   (case side1=>exact sR HO194)
   (case side2=>exact (Kd.R_reads' HO194.out).2.1)
   rintro e w19 ⟨v197,rfl,ho0,hb⟩
   refine ⟨_,rfl,?_⟩
   have n0_:=Aside0.mk (Kd.R_elder' (rR HO191) (Kd.R_base ho0) hb);have n1_:=Aside0.mk (Kd.R_elder' (rR HO194) (Kd.R_base ho0) hb);have n2_:=Aside0.mk (Kd.R_lower (Kd.R_new' (Kd.R_new' ho0 (Kd.R_lt (rR HO191))) (Kd.R_lt (rR HO194))) (below_size be));have n3_:=Aside0.mk (blk_below (bk BK184) hb);have n4_:=bs hb;clear HO191 HO194 BK184 HB;have HO191:=n0_;have HO194:=n1_;have HO198:=n2_;have BK184:=n3_;have HB:=n4_;clear n0_ n1_ n2_ n3_ n4_;(try clear hb);(try clear hb2);(try clear hk);(try clear hi);(try clear ho0)
   have hcv20:=Kd.C_string (P:=Try.prog) (A:=A0_4) (c:=c0_4) Try.underlying54 Try.underlying5 Try.underlying9 (Kd.C_below HR0_4.out HB.out)
   have hcw21:=fun (n_:Nat)=>Kd.C_string (P:=Try.prog) (A:=A0_4) (c:=c0_4) Try.underlying54 Try.underlying5 Try.underlying9 (Kd.C_drewN ((Kd.C_below HR0_4.out HB.out)) n_)
   obtain ⟨Ao23,co23,eo23⟩:=Kd.R_slice HO198.out
   (first|subst eo23|(injection eo23 with f1_ f2_ f3_;have f4_:=f1_.symm;have f5_:=f3_.symm;clear f1_ f2_ f3_;subst f4_;subst f5_))
   refine hK.out _ _ ⟨(blk_cell BK184.out 0).trans rfl,(blk_cell BK184.out 1).trans rfl,(blk_cell BK184.out 2).trans rfl,(blk_cell BK184.out 3).trans rfl,(blk_cell BK184.out 4).trans rfl,Kd.C_below HR0_4.out be⟩ (fun hHeld=>?_)
   clear hK K
   refine no 16 ?_
   refine ot 11 (some 20) (fl 13 4095) HT_ (fun K hK=>?_)
   refine goes_ Try.func87 (by kernel_rfl) rfl #[.slice Ao23 t196.length co23,.string (strOfNums l0_4)] (by rfl) rfl rfl (by (try simp only [List.map_toArray,List.map_cons,List.map_nil]);first|done|rfl|(simp only [List.length_drop,List.length_take];rfl)) ?_
   with_reducible refine (spec_PutText.calls k _ _ t196 (strOfNums l0_4) t199 _ ?side1 ?side2 A7.out).mono ?_
   (case side1=>exact sR HO198)
   (case side2=>exact (Kd.R_reads' HO198.out).2.1)
   rintro e w24 ⟨v200,rfl,ho0,hb⟩
   refine ⟨_,rfl,?_⟩
   have n0_:=Aside0.mk (Kd.R_elder' (rR HO191) (Kd.R_base ho0) hb);have n1_:=Aside0.mk (Kd.R_elder' (rR HO194) (Kd.R_base ho0) hb);have n2_:=Aside0.mk (Kd.R_elder' (rR HO198) (Kd.R_base ho0) hb);have n3_:=Aside0.mk (Kd.R_lower (Kd.R_new' (Kd.R_new' (Kd.R_new' ho0 (Kd.R_lt (rR HO191))) (Kd.R_lt (rR HO194))) (Kd.R_lt (rR HO198))) (below_size be));have n4_:=Aside0.mk (blk_below (bk BK184) hb);have n5_:=bs hb;clear HO191 HO194 HO198 BK184 HB;have HO191:=n0_;have HO194:=n1_;have HO198:=n2_;have HO201:=n3_;have BK184:=n4_;have HB:=n5_;clear n0_ n1_ n2_ n3_ n4_ n5_;(try clear hb);(try clear hb2);(try clear hk);(try clear hi);(try clear ho0)
   refine hK.out _ _ ⟨(blk_cell BK184.out 0).trans rfl,(blk_cell BK184.out 1).trans rfl,(blk_cell BK184.out 2).trans rfl,(blk_cell BK184.out 3).trans rfl,(blk_cell BK184.out 4).trans rfl,Kd.C_below HR0_4.out be⟩ (fun hHeld=>?_)
   clear hK K
   refine no 20 ?_
   refine pt 12 3 (fl 13 8191) HT_ ?_
   refine done_ (done_of HT_.out (by kernel_rfl)) ?_
   obtain ⟨Ao25,co25,eo25⟩:=Kd.R_slice HO201.out
   subst eo25
   try go_wp2_with (first|((with_reducible refine gate_callee (f:=91) rfl ?_);refine goesL_ (some 22) rfl rfl Try.func91 (by kernel_rfl) rfl #[.slice Ao25 t199.length co25] rfl (by (try simp only [List.map_toArray,List.map_cons,List.map_nil]);first|done|rfl|(simp only [List.length_drop,List.length_take];rfl)) ?_;(with_reducible refine (spec_Crc.calls k _ _ t199 t202 _ ?side1 ?side2 A8.out).mono ?_);(case side1=>exact sR HO201);(case side2=>exact (Kd.R_reads' HO201.out).2.1);rintro e w' ⟨rfl,⟨nd,rfl⟩⟩;refine ⟨_,rfl,?_⟩)|((with_reducible refine gate_dst (N:=35) rfl ?_);refine Kd.R_lit (Kd.int .u8) _ 5 ?hg (N:=35) ?hd (xs:=([(t202 / 16777216) % 256,(t202 / 65536) % 256,(t202 / 256) % 256,(t202) % 256]:List Int)) (inner:=[.int .u8 ((t202 / 16777216) % 256),.int .u8 ((t202 / 65536) % 256),.int .u8 ((t202 / 256) % 256),.int .u8 ((t202) % 256)]) (ok:=fun _=>True) (okp:=fun _=>True) ?hr ?hp (fun _ hk=>hk) trivial (Below.refl _ _) (Nat.le_refl _) (by simp) ?_;(case hd=>rfl);(case hg=>rfl);(case hr=>first|(go_simp;done)|(go_simp;rfl));(case hp=>exact (Reps.one (show Kd.M (Kd.int .u8) _ _ _ ((t202 / 16777216) % 256) [.int .u8 ((t202 / 16777216) % 256)] from rfl) (Reps.one (show Kd.M (Kd.int .u8) _ _ _ ((t202 / 65536) % 256) [.int .u8 ((t202 / 65536) % 256)] from rfl) (Reps.one (show Kd.M (Kd.int .u8) _ _ _ ((t202 / 256) % 256) [.int .u8 ((t202 / 256) % 256)] from rfl) (Reps.one (show Kd.M (Kd.int .u8) _ _ _ ((t202) % 256) [.int .u8 ((t202) % 256)] from rfl) (Reps.none _ _))))));intro v204 w26 ho27 hb hg_ hnew_;clear hg_ hnew_;(first|rw [← Ny203.out] at ho27|(simp only [Int.reduceToNat] at ho27;rw [← Ny203.out] at ho27));have n0_:=Aside0.mk (Kd.R_elder' (rR HO191) (Kd.R_base ho27) hb);have n1_:=Aside0.mk (Kd.R_elder' (rR HO194) (Kd.R_base ho27) hb);have n2_:=Aside0.mk (Kd.R_elder' (rR HO198) (Kd.R_base ho27) hb);have n3_:=Aside0.mk (Kd.R_elder' (rR HO201) (Kd.R_base ho27) hb);have n4_:=Aside0.mk (Kd.R_lower (Kd.R_new' (Kd.R_new' (Kd.R_new' (Kd.R_new' ho27 (Kd.R_lt (rR HO191))) (Kd.R_lt (rR HO194))) (Kd.R_lt (rR HO198))) (Kd.R_lt (rR HO201))) (below_size be));have n5_:=Aside0.mk (blk_below (g:=gb184) (o:=.cells #[.int .i64 a0_0,.int .i64 a0_1,.int .i64 a0_2,.bool a0_3,.slice A0_4 l0_4.length c0_4] 61 (0,0)) (bk BK184) hb);have n6_:=bs hb;clear HO191;clear HO194;clear HO198;clear HO201;clear BK184;clear HB;have HO191:=n0_;have HO194:=n1_;have HO198:=n2_;have HO201:=n3_;have HO205:=n4_;have BK184:=n5_;have HB:=n6_;clear n0_ n1_ n2_ n3_ n4_ n5_ n6_;clear hb ho27;obtain ⟨Ao29,co29,eo29⟩:=Kd.R_slice HO205.out;subst eo29)|((with_reducible refine gate_builtin (b:=.append) (xs:=#[.tmp 23,.tmp 35]) rfl ?_);at_builtin;refine Kd.R_append_rows (Kd.int .u8) (w0:=w) w.heap.size rfl (.tmp 23) (.tmp 35) 54 5 (.int .u8 0) 1 rfl Try.underlying54 info5 rfl (by decide) (by omega) (.slice Ao25 t199.length co25) t199 y203 _ _ _ (fun k_=>some k_ ≠ (.slice Ao16 y189.length co16:Value).ownBlock∧some k_ ≠ (.slice Ao18 t192.length co18:Value).ownBlock∧some k_ ≠ (.slice Ao23 t196.length co23:Value).ownBlock∧some k_ ≠ (.slice Ao29 y203.length co29:Value).ownBlock) (fun _=>False) rfl rfl ?aO ?aR (fun _ _ h=>h) (fun _ h=>h.elim) ?aF ?aB ?aS ?aL ?_;(case aR=>exact sR HO205);(case aB=>exact be);(case aF=>exact (fun k_ hk=>⟨Kd.fresh' (Kd.R_lt (rR HO191)) k_ hk,Kd.fresh' (Kd.R_lt (rR HO194)) k_ hk,Kd.fresh' (Kd.R_lt (rR HO198)) k_ hk,Kd.fresh' (Kd.R_lt (rR HO205)) k_ hk⟩));(case aO=>exact (by (with_reducible repeat (first|apply Kd.R_alloc|apply Kd.R_drewN|apply Kd.R_drew));exact Kd.R_mono HO201.out (fun _ hk=>⟨hk.1.1.1.2,⟨hk.1.1.2,⟨hk.1.2,hk.2⟩⟩⟩)));(case aS=>exact (below_size be));(case aL=>have:=LMc9.out;omega);intro v207 w28 ho hb hg hat;rw [← Ny206.out] at ho;have n0_:=Aside0.mk (blk_grown (g:=gb184) (o:=.cells #[.int .i64 a0_0,.int .i64 a0_1,.int .i64 a0_2,.bool a0_3,.slice A0_4 l0_4.length c0_4] 61 (0,0)) (bk BK184) hg (Kd.R_ne HO201.out BK184.out (by decide)));have n1_:=Aside0.mk (Kd.R_after (ok:=(fun k_=>some k_ ≠ (.slice Ao18 t192.length co18:Value).ownBlock∧some k_ ≠ (.slice Ao23 t196.length co23:Value).ownBlock∧some k_ ≠ (.slice Ao29 y203.length co29:Value).ownBlock)) (by (with_reducible repeat (first|apply Kd.R_alloc|apply Kd.R_drewN|apply Kd.R_drew));exact Kd.R_mono HO191.out (fun _ hk=>⟨⟨hk.1.1.1.2,⟨hk.1.1.2,hk.2⟩⟩,hk.1.2⟩)) hg hat);have n2_:=Aside0.mk (Kd.R_after (ok:=(fun k_=>some k_ ≠ (.slice Ao16 y189.length co16:Value).ownBlock∧some k_ ≠ (.slice Ao23 t196.length co23:Value).ownBlock∧some k_ ≠ (.slice Ao29 y203.length co29:Value).ownBlock)) (by (with_reducible repeat (first|apply Kd.R_alloc|apply Kd.R_drewN|apply Kd.R_drew));exact Kd.R_mono HO194.out (fun _ hk=>⟨⟨hk.1.1.1.2,⟨hk.1.1.2,hk.2⟩⟩,hk.1.2⟩)) hg hat);have n3_:=Aside0.mk (Kd.R_after (ok:=(fun k_=>some k_ ≠ (.slice Ao16 y189.length co16:Value).ownBlock∧some k_ ≠ (.slice Ao18 t192.length co18:Value).ownBlock∧some k_ ≠ (.slice Ao29 y203.length co29:Value).ownBlock)) (by (with_reducible repeat (first|apply Kd.R_alloc|apply Kd.R_drewN|apply Kd.R_drew));exact Kd.R_mono HO198.out (fun _ hk=>⟨⟨hk.1.1.1.2,⟨hk.1.1.2,hk.2⟩⟩,hk.1.2⟩)) hg hat);have n4_:=Aside0.mk (Kd.R_after (ok:=(fun k_=>some k_ ≠ (.slice Ao16 y189.length co16:Value).ownBlock∧some k_ ≠ (.slice Ao18 t192.length co18:Value).ownBlock∧some k_ ≠ (.slice Ao23 t196.length co23:Value).ownBlock)) (by (with_reducible repeat (first|apply Kd.R_alloc|apply Kd.R_drewN|apply Kd.R_drew));exact Kd.R_mono HO205.out (fun _ hk=>⟨⟨hk.1.1.1.2,⟨hk.1.1.2,hk.1.2⟩⟩,hk.2⟩)) hg hat);have n5_:=Aside0.mk (hb);have n6_:=Aside0.mk (ho);clear BK184;clear HO191;clear HO194;clear HO198;clear HO205;clear HB;clear HO201;have BK184:=n0_;have HO191:=n1_;have HO194:=n2_;have HO198:=n3_;have HO205:=n4_;have HB:=n5_;have HO208:=n6_;clear n0_ n1_ n2_ n3_ n4_ n5_ n6_;clear ho hb hg hat))
   go_ret
   exact ⟨_,rz,by (with_reducible repeat (first|apply Kd.R_alloc|apply Kd.R_drewN|apply Kd.R_drew));exact Kd.R_mono HO208.out (fun _ hk=>trivial),be⟩
  ·rw [if_neg c9] at H
   exact absurd H (by simp)
 ·replace c3:=Bool.eq_false_iff.mpr c3
  subst c3
  replace H:=(if_neg (show ¬ (false=true) by decide)).symm.trans H
  obtain ⟨y186,hy186⟩ : ∃ y_:List Int,y_=(([]:List Int)):=⟨_,rfl⟩
  replace H:(some y186)=some r:=by first|(rw [hy186];with_reducible exact H)|(have H2_:=(Option.bind_some _ _).symm.trans H;rw [hy186];with_reducible exact H2_)|(have H2_:=(Option.bind_some _ _).symm.trans H;with_reducible exact H2_)|with_reducible exact H|(rw [hy186];exact H)|exact H
  have Ny186:=Aside0.mk hy186
  clear hy186
  obtain rfl:=Option.some.inj H
  go_enter Try.func35,Try.ntmps35
  go_wp2_with (first|((with_reducible refine gate_dst (N:=1) rfl ?_);refine box_event ?hg (N:=1) ?hd (cs:=#[.int .i64 a0_0,.int .i64 a0_1,.int .i64 a0_2,.bool a0_3,.slice A0_4 l0_4.length c0_4]) (t:=61) ?hr ?_;(case hd=>rfl);(case hg=>rfl);(case hr=>first|(go_simp;done)|(go_simp;rfl));intro gb184 hg w30 hbox hb;have n0_:=bs hb;have n1_:=Aside0.mk (hbox);have n2_:=Aside0.mk ((by rw [hg];exact (below_size be):w.heap.size≤gb184));have n3_:=Aside0.mk ((by rw [hg];exact (below_size be):w.heap.size≤gb184));clear HB;have HB:=n0_;have BK184:=n1_;have GW184:=n2_;have GE184:=n3_;clear n0_ n1_ n2_ n3_;clear hb hbox hg;have hcz31_0:w30.cell? ⟨gb184,0,none⟩=some (.int .i64 a0_0):=(blk_cell BK184.out 0).trans rfl;have hcz31_1:w30.cell? ⟨gb184,1,none⟩=some (.int .i64 a0_1):=(blk_cell BK184.out 1).trans rfl;have hcz31_2:w30.cell? ⟨gb184,2,none⟩=some (.int .i64 a0_2):=(blk_cell BK184.out 2).trans rfl;have hcz31_3:w30.cell? ⟨gb184,3,none⟩=some (.bool a0_3):=(blk_cell BK184.out 3).trans rfl;have hcz31_4:w30.cell? ⟨gb184,4,none⟩=some (.slice A0_4 l0_4.length c0_4):=(blk_cell BK184.out 4).trans rfl;have hfz31_0:=blk_frozen BK184.out 0;have hfz31_1:=blk_frozen BK184.out 1;have hfz31_2:=blk_frozen BK184.out 2;have hfz31_3:=blk_frozen BK184.out 3;have hfz31_4:=blk_frozen BK184.out 4)|((with_reducible refine gate_callee (f:=86) rfl ?_);refine goesL_ (some 6) rfl rfl Try.func86 (by kernel_rfl) rfl #[.agg #[.int .i64 a0_0,.int .i64 a0_1,.int .i64 a0_2,.bool a0_3,.slice A0_4 l0_4.length c0_4]] rfl (by (try simp only [List.map_toArray,List.map_cons,List.map_nil]);first|done|rfl|(simp only [List.length_drop,List.length_take];rfl)) ?_;(with_reducible refine (spec_FileOk.calls a0_0 a0_1 a0_2 a0_3 _ _ l0_4 false _ ?side1 ?side2 A2.out).mono ?_);(case side1=>exact rC HR0_4);(case side2=>exact HC0_4.out);rintro e w32 ⟨rfl,hb⟩;refine ⟨_,rfl,?_⟩;have n0_:=Aside0.mk (blk_below (g:=gb184) (o:=.cells #[.int .i64 a0_0,.int .i64 a0_1,.int .i64 a0_2,.bool a0_3,.slice A0_4 l0_4.length c0_4] 61 (0,0)) (bk BK184) hb);have n1_:=bs hb;clear BK184;clear HB;have BK184:=n0_;have HB:=n1_;clear n0_ n1_;(try clear hb);(try clear hb2);(try clear hk);(try clear hi))|((with_reducible refine gate_dst (N:=8) rfl ?_);refine Kd.R_lit (Kd.int .u8) _ 5 ?hg (N:=8) ?hd (xs:=([]:List Int)) (inner:=[]) (ok:=fun _=>True) (okp:=fun _=>True) ?hr ?hp (fun _ hk=>hk) trivial (Below.refl _ _) (Nat.le_refl _) (by simp) ?_;(case hd=>rfl);(case hg=>rfl);(case hr=>first|(go_simp;done)|(go_simp;rfl));(case hp=>exact (Reps.none _ _));intro v187 w33 ho34 hb hg_ hnew_;clear hg_ hnew_;(first|rw [← Ny186.out] at ho34|(simp only [Int.reduceToNat] at ho34;rw [← Ny186.out] at ho34));have n0_:=Aside0.mk (Kd.R_lower ho34 (below_size be));have n1_:=Aside0.mk (blk_below (g:=gb184) (o:=.cells #[.int .i64 a0_0,.int .i64 a0_1,.int .i64 a0_2,.bool a0_3,.slice A0_4 l0_4.length c0_4] 61 (0,0)) (bk BK184) hb);have n2_:=bs hb;clear BK184;clear HB;have HO188:=n0_;have BK184:=n1_;have HB:=n2_;clear n0_ n1_ n2_;clear hb ho34))
  go_ret
  exact ⟨_,rz,rR HO188,be⟩
end Go.Proofs.Ytbhllgifciaepaa.PFnFilesRead
