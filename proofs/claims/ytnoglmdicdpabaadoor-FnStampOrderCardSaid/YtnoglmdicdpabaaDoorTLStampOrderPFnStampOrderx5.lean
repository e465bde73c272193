/- Trimmed by a program of this session (trim.py). Not trusted: Lean checks it. -/
import Derived.Test.YtnoglmdicdpabaaDoorTLStampOrderPFnStampOrderx0
import Derived.Test.YtnoglmdicdpabaaDoorTLStampOrderPFnStampOrderx1
import Derived.Test.YtnoglmdicdpabaaDoorTLStampOrderPFnStampOrderx2
import Derived.Test.YtnoglmdicdpabaaDoorTLStampOrderPFnStampOrderx3
import Derived.Test.YtnoglmdicdpabaaDoorTLStampOrderPFnStampOrderx4
namespace Go.Proofs.YtnoglmdicdpabaaDoor.PFnStampOrder
open Go.RowKit Go.Proofs.YtnoglmdicdpabaaDoorW.PrintWords Go.Proofs.YtnoglmdicdpabaaDoorW.PrintLast Go.Proofs.YtnoglmdicdpabaaDoorW.PrintMore Go.Proofs.YtnoglmdicdpabaaDoor.St
attribute [local go_sem] max2_int min2_int max_two min_two max_three min_three max_four min_four
set_option linter.unusedVariables false
set_option linter.unusedSimpArgs false
attribute [local go_sem high] eqA25
def laws_FnStampOrder.j0:Nat→Bool→Int→Int→Int→Option (Bool)
 | 0,_,_,_,_=>none
 | k+1,x43,x231000,x231001,x231002=>if x43=true then (some false) else ((impl_StampText.f x231000 x231001 x231002).bind fun t236=>((impl_ParseStamp.f k t236).bind fun bt237=>((spec_StampOk.f x231000 x231001 x231002).bind fun t242=>(if t242=true then (if bt237.2.2.2=true then (if (bt237.1 == x231000 && (bt237.2.1 == x231001 && (bt237.2.2.1 == x231002)))=true then ((impl_StampOk.f x231000 x231001 x231002).bind fun t243=>(some t243)) else (some false)) else (some false)) else (if t236.toList=([]:List UInt8) then ((impl_StampOk.f x231000 x231001 x231002).bind fun t244=>(some (!t244))) else (some false))))))
def laws_FnStampOrder.f (k:Nat) (l0:List Int):Option (Bool):=(laws_big.f l0).bind fun t223=>(if t223=true then (some true) else ((spec_DrawLessStamp.f k l0).bind fun bt224=>((impl_LessStamp.f bt224.1 bt224.2.1 bt224.2.2.1 bt224.2.2.2.1 bt224.2.2.2.2.1 bt224.2.2.2.2.2).bind fun t232=>((impl_LessStamp.f bt224.2.2.2.1 bt224.2.2.2.2.1 bt224.2.2.2.2.2 bt224.1 bt224.2.1 bt224.2.2.1).bind fun t233=>(if t232=true then (if t233=true then (laws_FnStampOrder.j0 k true bt224.1 bt224.2.1 bt224.2.2.1) else (if (true != (!(bt224.1 == bt224.2.2.2.1) || (!(bt224.2.1 == bt224.2.2.2.2.1) || (!(bt224.2.2.1 == bt224.2.2.2.2.2)))))=true then (laws_FnStampOrder.j0 k true bt224.1 bt224.2.1 bt224.2.2.1) else ((spec_LessStamp.f bt224.1 bt224.2.1 bt224.2.2.1 bt224.2.2.2.1 bt224.2.2.2.2.1 bt224.2.2.2.2.2).bind fun t234=>(laws_FnStampOrder.j0 k (t232 != t234) bt224.1 bt224.2.1 bt224.2.2.1)))) else (if (t233 != (!(bt224.1 == bt224.2.2.2.1) || (!(bt224.2.1 == bt224.2.2.2.2.1) || (!(bt224.2.2.1 == bt224.2.2.2.2.2)))))=true then (laws_FnStampOrder.j0 k true bt224.1 bt224.2.1 bt224.2.2.1) else ((spec_LessStamp.f bt224.1 bt224.2.1 bt224.2.2.1 bt224.2.2.2.1 bt224.2.2.2.2.1 bt224.2.2.2.2.2).bind fun t235=>(laws_FnStampOrder.j0 k (t232 != t235) bt224.1 bt224.2.1 bt224.2.2.1))))))))
set_option maxHeartbeats 8000000 in
set_option maxRecDepth 100000 in
theorem laws_FnStampOrder.calls (k:Nat) (A0:Option Addr) (c0:Nat) (l0:List Int) (r:Bool) (w:World) (hL:Aside0 (Laid w)) (hr0:Kd.C (Kd.int .u8) w A0 l0.length l0) (hc0:l0.length≤c0) (h:laws_FnStampOrder.f k l0=some r) (hr_:Aside0 (r=true)) :
  Calls Tryd.prog 6 #[.slice A0 l0.length c0] w fun e w'=>e = .returned (.bool r)∧Below w.heap.size w w':=by
 have hu25:=Tryd.underlying25
 have HR0:=Aside0.mk hr0
 have HC0:=Aside0.mk hc0
 clear hr0 hc0
 have HB:=Aside0.mk (Below.refl w.heap.size w)
 have H:((laws_big.f l0).bind fun t223=>(if t223=true then (some true) else ((spec_DrawLessStamp.f k l0).bind fun bt224=>((impl_LessStamp.f bt224.1 bt224.2.1 bt224.2.2.1 bt224.2.2.2.1 bt224.2.2.2.2.1 bt224.2.2.2.2.2).bind fun t232=>((impl_LessStamp.f bt224.2.2.2.1 bt224.2.2.2.2.1 bt224.2.2.2.2.2 bt224.1 bt224.2.1 bt224.2.2.1).bind fun t233=>(if t232=true then (if t233=true then (laws_FnStampOrder.j0 k true bt224.1 bt224.2.1 bt224.2.2.1) else (if (true != (!(bt224.1 == bt224.2.2.2.1) || (!(bt224.2.1 == bt224.2.2.2.2.1) || (!(bt224.2.2.1 == bt224.2.2.2.2.2)))))=true then (laws_FnStampOrder.j0 k true bt224.1 bt224.2.1 bt224.2.2.1) else ((spec_LessStamp.f bt224.1 bt224.2.1 bt224.2.2.1 bt224.2.2.2.1 bt224.2.2.2.2.1 bt224.2.2.2.2.2).bind fun t234=>(laws_FnStampOrder.j0 k (t232 != t234) bt224.1 bt224.2.1 bt224.2.2.1)))) else (if (t233 != (!(bt224.1 == bt224.2.2.2.1) || (!(bt224.2.1 == bt224.2.2.2.2.1) || (!(bt224.2.2.1 == bt224.2.2.2.2.2)))))=true then (laws_FnStampOrder.j0 k true bt224.1 bt224.2.1 bt224.2.2.1) else ((spec_LessStamp.f bt224.1 bt224.2.1 bt224.2.2.1 bt224.2.2.2.1 bt224.2.2.2.2.1 bt224.2.2.2.2.2).bind fun t235=>(laws_FnStampOrder.j0 k (t232 != t235) bt224.1 bt224.2.1 bt224.2.2.1)))))))))=some r:=h
 clear h
 replace H:=Option.bind_eq_some_iff.mp H
 obtain ⟨t223,A20,H⟩:=H
 try dsimp only at H
 have A2:=Aside0.mk A20
 clear A20
 by_cases c3:t223=true
 ·subst c3
  rw [if_pos rfl] at H
  obtain rfl:=Option.some.inj H
  go_enter Tryd.func6,Tryd.ntmps6
  go_wp2_with (first|((with_reducible refine gate_callee (f:=22) rfl ?_);refine goesL_ (some 11) rfl rfl Tryd.func22 (by kernel_rfl) rfl #[.slice A0 l0.length c0] rfl (by (try simp only [List.map_toArray,List.map_cons,List.map_nil]);first|done|rfl|(simp only [List.length_drop,List.length_take];rfl)) ?_;(with_reducible refine (laws_big.calls _ _ l0 true _ ?side1 ?side2 A2.out).mono ?_);(case side1=>exact sC HR0);(case side2=>exact HC0.out);rintro e w' ⟨rfl,⟨nd,rfl⟩⟩;refine ⟨_,rfl,?_⟩))
  go_ret
  exact ⟨rz,be⟩
 ·replace c3:=Bool.eq_false_iff.mpr c3
  subst c3
  have H1:((spec_DrawLessStamp.f k l0).bind fun bt224=>((impl_LessStamp.f bt224.1 bt224.2.1 bt224.2.2.1 bt224.2.2.2.1 bt224.2.2.2.2.1 bt224.2.2.2.2.2).bind fun t232=>((impl_LessStamp.f bt224.2.2.2.1 bt224.2.2.2.2.1 bt224.2.2.2.2.2 bt224.1 bt224.2.1 bt224.2.2.1).bind fun t233=>(if t232=true then (if t233=true then (laws_FnStampOrder.j0 k true bt224.1 bt224.2.1 bt224.2.2.1) else (if (true != (!(bt224.1 == bt224.2.2.2.1) || (!(bt224.2.1 == bt224.2.2.2.2.1) || (!(bt224.2.2.1 == bt224.2.2.2.2.2)))))=true then (laws_FnStampOrder.j0 k true bt224.1 bt224.2.1 bt224.2.2.1) else ((spec_LessStamp.f bt224.1 bt224.2.1 bt224.2.2.1 bt224.2.2.2.1 bt224.2.2.2.2.1 bt224.2.2.2.2.2).bind fun t234=>(laws_FnStampOrder.j0 k (t232 != t234) bt224.1 bt224.2.1 bt224.2.2.1)))) else (if (t233 != (!(bt224.1 == bt224.2.2.2.1) || (!(bt224.2.1 == bt224.2.2.2.2.1) || (!(bt224.2.2.1 == bt224.2.2.2.2.2)))))=true then (laws_FnStampOrder.j0 k true bt224.1 bt224.2.1 bt224.2.2.1) else ((spec_LessStamp.f bt224.1 bt224.2.1 bt224.2.2.1 bt224.2.2.2.1 bt224.2.2.2.2.1 bt224.2.2.2.2.2).bind fun t235=>(laws_FnStampOrder.j0 k (t232 != t235) bt224.1 bt224.2.1 bt224.2.2.1)))))))=some r:=by rw [if_neg (show ¬ (false=true) by decide)] at H;exact H
  clear H
  have H:=H1
  clear H1
  replace H:=Option.bind_eq_some_iff.mp H
  obtain ⟨⟨t224,t225,t226,t227,t228,t229⟩,A40,H⟩:=H
  try dsimp only at H
  have A4:=Aside0.mk A40
  clear A40
  replace H:=Option.bind_eq_some_iff.mp H
  obtain ⟨t232,A50,H⟩:=H
  try dsimp only at H
  have A5:=Aside0.mk A50
  clear A50
  replace H:=Option.bind_eq_some_iff.mp H
  obtain ⟨t233,A60,H⟩:=H
  try dsimp only at H
  have A6:=Aside0.mk A60
  clear A60
  have HC7:=Aside0.mk H
  clear H
  go_enter Tryd.func6,Tryd.ntmps6
  go_upto_region 6 with (first|((with_reducible refine gate_callee (f:=22) rfl ?_);refine goesL_ (some 11) rfl rfl Tryd.func22 (by kernel_rfl) rfl #[.slice A0 l0.length c0] rfl (by (try simp only [List.map_toArray,List.map_cons,List.map_nil]);first|done|rfl|(simp only [List.length_drop,List.length_take];rfl)) ?_;(with_reducible refine (laws_big.calls _ _ l0 false _ ?side1 ?side2 A2.out).mono ?_);(case side1=>exact sC HR0);(case side2=>exact HC0.out);rintro e w' ⟨rfl,⟨nd,rfl⟩⟩;refine ⟨_,rfl,?_⟩)|((with_reducible refine gate_callee (f:=23) rfl ?_);refine goesL_ (some 14) rfl rfl Tryd.func23 (by kernel_rfl) rfl #[.slice A0 l0.length c0] rfl (by (try simp only [List.map_toArray,List.map_cons,List.map_nil]);first|done|rfl|(simp only [List.length_drop,List.length_take];rfl)) ?_;(with_reducible refine (spec_DrawLessStamp.calls k _ _ l0 t224 t225 t226 t227 t228 t229 _ ?side1 ?side2 A4.out).mono ?_);(case side1=>exact sC HR0);(case side2=>exact HC0.out);rintro e w8 ⟨rfl,hb⟩;refine ⟨_,rfl,?_⟩;have n0_:=bs hb;clear HB;have HB:=n0_;clear n0_;(try clear hb);(try clear hb2);(try clear hk);(try clear hi))|((with_reducible refine gate_dst (N:=3) rfl ?_);refine box_event ?hg (N:=3) ?hd (cs:=#[.int .i64 0,.int .i64 0,.int .i64 0]) (t:=25) ?hr ?_;(case hd=>rfl);(case hg=>rfl);(case hr=>first|(go_simp;done)|(go_simp;rfl));intro gb230 hg w9 hbox hb;have n0_:=bs hb;have n1_:=Aside0.mk (hbox);have n2_:=Aside0.mk ((by rw [hg];exact (below_size be):w.heap.size≤gb230));have n3_:=Aside0.mk ((by rw [hg];exact (below_size be):w.heap.size≤gb230));clear HB;have HB:=n0_;have BK230:=n1_;have GW230:=n2_;have GE230:=n3_;clear n0_ n1_ n2_ n3_;clear hb hbox hg)|((with_reducible refine gate_dst (N:=4) rfl ?_);refine box_event ?hg (N:=4) ?hd (cs:=#[.int .i64 0,.int .i64 0,.int .i64 0]) (t:=25) ?hr ?_;(case hd=>rfl);(case hg=>rfl);(case hr=>first|(go_simp;done)|(go_simp;rfl));intro gb231 hg w10 hbox hb;have n0_:=Aside0.mk (blk_below (g:=gb230) (o:=.cells #[.int .i64 0,.int .i64 0,.int .i64 0] 25 (0,0)) (bk BK230) hb);have n1_:=bs hb;have n2_:=Aside0.mk (hbox);have n3_:=Aside0.mk ((by rw [hg];exact (below_size be):w.heap.size≤gb231));have n4_:=Aside0.mk ((by rw [hg];exact (below_size be):w.heap.size≤gb231));have n5_:=Aside0.mk ((by rw [hg];exact Nat.ne_of_lt (blk_lt (g:=gb230) (o:=.cells #[.int .i64 0,.int .i64 0,.int .i64 0] 25 (0,0)) (bk BK230)):gb230 ≠ gb231));have n6_:=Aside0.mk ((by rw [hg];exact Nat.ne_of_gt (blk_lt (g:=gb230) (o:=.cells #[.int .i64 0,.int .i64 0,.int .i64 0] 25 (0,0)) (bk BK230)):gb231 ≠ gb230));clear BK230;clear HB;have BK230:=n0_;have HB:=n1_;have BK231:=n2_;have GW231:=n3_;have GE231:=n4_;have NB230_231:=n5_;have NB231_230:=n6_;clear n0_ n1_ n2_ n3_ n4_ n5_ n6_;clear hb hbox hg;have hnb11:=NB230_231.out;have hnc11:=NB231_230.out;have hcz12_0:w10.cell? ⟨gb230,0,none⟩=some (.int .i64 0):=(blk_cell BK230.out 0).trans rfl;have hcz12_1:w10.cell? ⟨gb230,1,none⟩=some (.int .i64 0):=(blk_cell BK230.out 1).trans rfl;have hcz12_2:w10.cell? ⟨gb230,2,none⟩=some (.int .i64 0):=(blk_cell BK230.out 2).trans rfl;have hfz12_0:=blk_frozen BK230.out 0;have hfz12_1:=blk_frozen BK230.out 1;have hfz12_2:=blk_frozen BK230.out 2;have hcz13_0:w10.cell? ⟨gb231,0,none⟩=some (.int .i64 0):=(blk_cell BK231.out 0).trans rfl;have hcz13_1:w10.cell? ⟨gb231,1,none⟩=some (.int .i64 0):=(blk_cell BK231.out 1).trans rfl;have hcz13_2:w10.cell? ⟨gb231,2,none⟩=some (.int .i64 0):=(blk_cell BK231.out 2).trans rfl;have hfz13_0:=blk_frozen BK231.out 0;have hfz13_1:=blk_frozen BK231.out 1;have hfz13_2:=blk_frozen BK231.out 2)|((with_reducible refine gate_callee (f:=24) rfl ?_);refine goesL_ (some 19) rfl rfl Tryd.func24 (by kernel_rfl) rfl #[.agg #[.int .i64 t224,.int .i64 t225,.int .i64 t226],.agg #[.int .i64 t227,.int .i64 t228,.int .i64 t229]] rfl (by (try simp only [List.map_toArray,List.map_cons,List.map_nil]);first|done|rfl|(simp only [List.length_drop,List.length_take];rfl)) ?_;(with_reducible refine (impl_LessStamp.calls t224 t225 t226 t227 t228 t229 t232 _ A5.out).mono ?_);rintro e w14 ⟨rfl,hb⟩;refine ⟨_,rfl,?_⟩;have n0_:=Aside0.mk (blk_below (g:=gb230) (o:=.cells #[.int .i64 t224,.int .i64 t225,.int .i64 t226] 25 (0,0)) (by (with_reducible repeat (first|refine blk_drewN ?_ _|refine blk_drew ?_|refine blk_alloc ?_ _));refine blk_far ?_ NB230_231.out _;(with_reducible repeat (first|refine blk_drewN ?_ _|refine blk_drew ?_|refine blk_alloc ?_ _));refine blk_far ?_ NB230_231.out _;(with_reducible repeat (first|refine blk_drewN ?_ _|refine blk_drew ?_|refine blk_alloc ?_ _));refine blk_far ?_ NB230_231.out _;(with_reducible repeat (first|refine blk_drewN ?_ _|refine blk_drew ?_|refine blk_alloc ?_ _));refine blk_put (cs:=#[.int .i64 t224,.int .i64 t225,.int .i64 0]) ?_ 2 _ rfl;(with_reducible repeat (first|refine blk_drewN ?_ _|refine blk_drew ?_|refine blk_alloc ?_ _));refine blk_put (cs:=#[.int .i64 t224,.int .i64 0,.int .i64 0]) ?_ 1 _ rfl;(with_reducible repeat (first|refine blk_drewN ?_ _|refine blk_drew ?_|refine blk_alloc ?_ _));refine blk_put (cs:=#[.int .i64 0,.int .i64 0,.int .i64 0]) ?_ 0 _ rfl;(with_reducible repeat (first|refine blk_drewN ?_ _|refine blk_drew ?_|refine blk_alloc ?_ _));exact BK230.out) hb);have n1_:=Aside0.mk (blk_below (g:=gb231) (o:=.cells #[.int .i64 t227,.int .i64 t228,.int .i64 t229] 25 (0,0)) (by (with_reducible repeat (first|refine blk_drewN ?_ _|refine blk_drew ?_|refine blk_alloc ?_ _));refine blk_put (cs:=#[.int .i64 t227,.int .i64 t228,.int .i64 0]) ?_ 2 _ rfl;(with_reducible repeat (first|refine blk_drewN ?_ _|refine blk_drew ?_|refine blk_alloc ?_ _));refine blk_put (cs:=#[.int .i64 t227,.int .i64 0,.int .i64 0]) ?_ 1 _ rfl;(with_reducible repeat (first|refine blk_drewN ?_ _|refine blk_drew ?_|refine blk_alloc ?_ _));refine blk_put (cs:=#[.int .i64 0,.int .i64 0,.int .i64 0]) ?_ 0 _ rfl;(with_reducible repeat (first|refine blk_drewN ?_ _|refine blk_drew ?_|refine blk_alloc ?_ _));refine blk_far ?_ NB231_230.out _;(with_reducible repeat (first|refine blk_drewN ?_ _|refine blk_drew ?_|refine blk_alloc ?_ _));refine blk_far ?_ NB231_230.out _;(with_reducible repeat (first|refine blk_drewN ?_ _|refine blk_drew ?_|refine blk_alloc ?_ _));refine blk_far ?_ NB231_230.out _;(with_reducible repeat (first|refine blk_drewN ?_ _|refine blk_drew ?_|refine blk_alloc ?_ _));exact BK231.out) hb);have n2_:=bs hb;clear BK230;clear BK231;clear HB;have BK230:=n0_;have BK231:=n1_;have HB:=n2_;clear n0_ n1_ n2_;(try clear hb);(try clear hb2);(try clear hk);(try clear hi);have hcz15_0:w14.cell? ⟨gb231,0,none⟩=some (.int .i64 t227):=(blk_cell BK231.out 0).trans rfl;have hcz15_1:w14.cell? ⟨gb231,1,none⟩=some (.int .i64 t228):=(blk_cell BK231.out 1).trans rfl;have hcz15_2:w14.cell? ⟨gb231,2,none⟩=some (.int .i64 t229):=(blk_cell BK231.out 2).trans rfl;have hfz15_0:=blk_frozen BK231.out 0;have hfz15_1:=blk_frozen BK231.out 1;have hfz15_2:=blk_frozen BK231.out 2;have hcz16_0:w14.cell? ⟨gb230,0,none⟩=some (.int .i64 t224):=(blk_cell BK230.out 0).trans rfl;have hcz16_1:w14.cell? ⟨gb230,1,none⟩=some (.int .i64 t225):=(blk_cell BK230.out 1).trans rfl;have hcz16_2:w14.cell? ⟨gb230,2,none⟩=some (.int .i64 t226):=(blk_cell BK230.out 2).trans rfl;have hfz16_0:=blk_frozen BK230.out 0;have hfz16_1:=blk_frozen BK230.out 1;have hfz16_2:=blk_frozen BK230.out 2)|((with_reducible refine gate_callee (f:=24) rfl ?_);refine goesL_ (some 22) rfl rfl Tryd.func24 (by kernel_rfl) rfl #[.agg #[.int .i64 t227,.int .i64 t228,.int .i64 t229],.agg #[.int .i64 t224,.int .i64 t225,.int .i64 t226]] rfl (by (try simp only [List.map_toArray,List.map_cons,List.map_nil]);first|done|rfl|(simp only [List.length_drop,List.length_take];rfl)) ?_;(with_reducible refine (impl_LessStamp.calls t227 t228 t229 t224 t225 t226 t233 _ A6.out).mono ?_);rintro e w17 ⟨rfl,hb⟩;refine ⟨_,rfl,?_⟩;have n0_:=Aside0.mk (blk_below (g:=gb230) (o:=.cells #[.int .i64 t224,.int .i64 t225,.int .i64 t226] 25 (0,0)) (bk BK230) hb);have n1_:=Aside0.mk (blk_below (g:=gb231) (o:=.cells #[.int .i64 t227,.int .i64 t228,.int .i64 t229] 25 (0,0)) (bk BK231) hb);have n2_:=bs hb;clear BK230;clear BK231;clear HB;have BK230:=n0_;have BK231:=n1_;have HB:=n2_;clear n0_ n1_ n2_;(try clear hb);(try clear hb2);(try clear hk);(try clear hi)))
  (try simp only [Act.put,List.setIfInBounds_toArray,List.set_cons_zero,List.set_cons_succ])
  go_cut [43] (fun v43 wc=>∃ (kq:Nat) (x43_6:Bool),v43 = .bool x43_6∧Aside0 (laws_FnStampOrder.j0 kq x43_6 t224 t225 t226=some r)∧Aside0 (kq≤k)∧Aside0 (wc.heap[gb230]?=some (.cells #[.int .i64 t224,.int .i64 t225,.int .i64 t226] 25 (0,0)))∧Aside0 (wc.heap[gb231]?=some (.cells #[.int .i64 t227,.int .i64 t228,.int .i64 t229] 25 (0,0)))∧Aside0 (Below w.heap.size w wc))
  case first=>
   have H:=HC7.out
   clear HC7
   by_cases c18:t232=true
   ·subst c18
    rw [if_pos rfl] at H
    by_cases c19:t233=true
    ·subst c19
     rw [if_pos rfl] at H
     have H':=Aside0.mk H
     clear H
     go_wp2
     go_meet
     case rel=>exact ⟨_,(true),(by first|rfl|(simp;done)|(simp [*];done)|(simp;intro e1_ e2_ e3_;exfalso;revert c20b0;simp [e1_,e2_,e3_];done)|(simp_all;done)),H',⟨by first|omega|exact Nat.le_refl _⟩,⟨bk BK230⟩,⟨bk BK231⟩,⟨be⟩⟩
     all_goals (exfalso;simp_all;done)
    ·replace c19:=Bool.eq_false_iff.mpr c19
     subst c19
     have H1:(if (true != (!(t224 == t227) || (!(t225 == t228) || (!(t226 == t229)))))=true then (laws_FnStampOrder.j0 k true t224 t225 t226) else ((spec_LessStamp.f t224 t225 t226 t227 t228 t229).bind fun t234=>(laws_FnStampOrder.j0 k (true != t234) t224 t225 t226)))=some r:=by rw [if_neg (show ¬ (false=true) by decide)] at H;exact H
     clear H
     have H:=H1
     clear H1
     by_cases c20:(true != (!(t224 == t227) || (!(t225 == t228) || (!(t226 == t229)))))=true
     ·rw [if_pos c20] at H
      have c20b0:(true != (!(t224 == t227) || (!(t225 == t228) || (!(t226 == t229)))))=true:=c20
      (try (have c20b1:decide (true=(!(t224 == t227) || (!(t225 == t228) || (!(t226 == t229)))))=false:=by simpa using c20))
      (try (have c20b2:(true == (!(t224 == t227) || (!(t225 == t228) || (!(t226 == t229)))))=false:=by simpa using c20))
      (try (have c20b3 : ¬ (true=(!(t224 == t227) || (!(t225 == t228) || (!(t226 == t229))))):=by simpa using c20))
      clear c20
      (first|rw [c20b0]|(simp only [i64_w,i32_w];rw [c20b0])|skip)
      have H':=Aside0.mk H
      clear H
      have hnb21:=NB230_231.out
      have hnc21:=NB231_230.out
      have hcz22_0:w17.cell? ⟨gb230,0,none⟩=some (.int .i64 t224):=(blk_cell BK230.out 0).trans rfl
      have hcz22_1:w17.cell? ⟨gb230,1,none⟩=some (.int .i64 t225):=(blk_cell BK230.out 1).trans rfl
      have hcz22_2:w17.cell? ⟨gb230,2,none⟩=some (.int .i64 t226):=(blk_cell BK230.out 2).trans rfl
      have hfz22_0:=blk_frozen BK230.out 0
      have hfz22_1:=blk_frozen BK230.out 1
      have hfz22_2:=blk_frozen BK230.out 2
      have hcz23_0:w17.cell? ⟨gb231,0,none⟩=some (.int .i64 t227):=(blk_cell BK231.out 0).trans rfl
      have hcz23_1:w17.cell? ⟨gb231,1,none⟩=some (.int .i64 t228):=(blk_cell BK231.out 1).trans rfl
      have hcz23_2:w17.cell? ⟨gb231,2,none⟩=some (.int .i64 t229):=(blk_cell BK231.out 2).trans rfl
      have hfz23_0:=blk_frozen BK231.out 0
      have hfz23_1:=blk_frozen BK231.out 1
      have hfz23_2:=blk_frozen BK231.out 2
      go_wp2
      go_meet
      case rel=>exact ⟨_,(true),(by first|rfl|(simp;done)|(simp [*];done)|(simp;intro e1_ e2_ e3_;exfalso;revert c20b0;simp [e1_,e2_,e3_];done)|(simp_all;done)),H',⟨by first|omega|exact Nat.le_refl _⟩,⟨bk BK230⟩,⟨bk BK231⟩,⟨be⟩⟩
      all_goals (exfalso;simp_all;done)
     ·rw [if_neg c20] at H
      have c20b0:(true != (!(t224 == t227) || (!(t225 == t228) || (!(t226 == t229)))))=false:=by simpa using c20
      (try (have c20b1:decide (true=(!(t224 == t227) || (!(t225 == t228) || (!(t226 == t229)))))=true:=by simpa using c20))
      (try (have c20b2:(true == (!(t224 == t227) || (!(t225 == t228) || (!(t226 == t229)))))=true:=by simpa using c20))
      clear c20
      (first|rw [c20b0]|(simp only [i64_w,i32_w];rw [c20b0])|skip)
      replace H:=Option.bind_eq_some_iff.mp H
      obtain ⟨t234,A240,H⟩:=H
      try dsimp only at H
      have A24:=Aside0.mk A240
      clear A240
      have H':=Aside0.mk H
      clear H
      have hnb25:=NB230_231.out
      have hnc25:=NB231_230.out
      have hcz26_0:w17.cell? ⟨gb230,0,none⟩=some (.int .i64 t224):=(blk_cell BK230.out 0).trans rfl
      have hcz26_1:w17.cell? ⟨gb230,1,none⟩=some (.int .i64 t225):=(blk_cell BK230.out 1).trans rfl
      have hcz26_2:w17.cell? ⟨gb230,2,none⟩=some (.int .i64 t226):=(blk_cell BK230.out 2).trans rfl
      have hfz26_0:=blk_frozen BK230.out 0
      have hfz26_1:=blk_frozen BK230.out 1
      have hfz26_2:=blk_frozen BK230.out 2
      have hcz27_0:w17.cell? ⟨gb231,0,none⟩=some (.int .i64 t227):=(blk_cell BK231.out 0).trans rfl
      have hcz27_1:w17.cell? ⟨gb231,1,none⟩=some (.int .i64 t228):=(blk_cell BK231.out 1).trans rfl
      have hcz27_2:w17.cell? ⟨gb231,2,none⟩=some (.int .i64 t229):=(blk_cell BK231.out 2).trans rfl
      have hfz27_0:=blk_frozen BK231.out 0
      have hfz27_1:=blk_frozen BK231.out 1
      have hfz27_2:=blk_frozen BK231.out 2
      go_wp2_with (first|(go_at_call 25;(with_reducible refine (spec_LessStamp.calls t224 t225 t226 t227 t228 t229 t234 _ A24.out).mono ?_);rintro e w28 ⟨rfl,hb⟩;have n0_:=Aside0.mk (blk_below (g:=gb230) (o:=.cells #[.int .i64 t224,.int .i64 t225,.int .i64 t226] 25 (0,0)) (bk BK230) hb);have n1_:=Aside0.mk (blk_below (g:=gb231) (o:=.cells #[.int .i64 t227,.int .i64 t228,.int .i64 t229] 25 (0,0)) (bk BK231) hb);have n2_:=bs hb;clear BK230;clear BK231;clear HB;have BK230:=n0_;have BK231:=n1_;have HB:=n2_;clear n0_ n1_ n2_;(try clear hb);(try clear hb2);(try clear hk);(try clear hi)))
      go_meet
      case rel=>exact ⟨_,((true != t234)),(by first|rfl|(simp;done)|(simp [*];done)|(simp;intro e1_ e2_ e3_;exfalso;revert c20b0;simp [e1_,e2_,e3_];done)|(simp_all;done)),H',⟨by first|omega|exact Nat.le_refl _⟩,⟨bk BK230⟩,⟨bk BK231⟩,⟨be⟩⟩
      all_goals (exfalso;simp_all;done)
   ·replace c18:=Bool.eq_false_iff.mpr c18
    subst c18
    have H1:(if (t233 != (!(t224 == t227) || (!(t225 == t228) || (!(t226 == t229)))))=true then (laws_FnStampOrder.j0 k true t224 t225 t226) else ((spec_LessStamp.f t224 t225 t226 t227 t228 t229).bind fun t235=>(laws_FnStampOrder.j0 k (false != t235) t224 t225 t226)))=some r:=by rw [if_neg (show ¬ (false=true) by decide)] at H;exact H
    clear H
    have H:=H1
    clear H1
    by_cases c29:(t233 != (!(t224 == t227) || (!(t225 == t228) || (!(t226 == t229)))))=true
    ·rw [if_pos c29] at H
     have c29b0:(t233 != (!(t224 == t227) || (!(t225 == t228) || (!(t226 == t229)))))=true:=c29
     (try (have c29b1:decide (t233=(!(t224 == t227) || (!(t225 == t228) || (!(t226 == t229)))))=false:=by simpa using c29))
     (try (have c29b2:(t233 == (!(t224 == t227) || (!(t225 == t228) || (!(t226 == t229)))))=false:=by simpa using c29))
     (try (have c29b3 : ¬ (t233=(!(t224 == t227) || (!(t225 == t228) || (!(t226 == t229))))):=by simpa using c29))
     clear c29
     have H':=Aside0.mk H
     clear H
     have hnb30:=NB230_231.out
     have hnc30:=NB231_230.out
     have hcz31_0:w17.cell? ⟨gb230,0,none⟩=some (.int .i64 t224):=(blk_cell BK230.out 0).trans rfl
     have hcz31_1:w17.cell? ⟨gb230,1,none⟩=some (.int .i64 t225):=(blk_cell BK230.out 1).trans rfl
     have hcz31_2:w17.cell? ⟨gb230,2,none⟩=some (.int .i64 t226):=(blk_cell BK230.out 2).trans rfl
     have hfz31_0:=blk_frozen BK230.out 0
     have hfz31_1:=blk_frozen BK230.out 1
     have hfz31_2:=blk_frozen BK230.out 2
     have hcz32_0:w17.cell? ⟨gb231,0,none⟩=some (.int .i64 t227):=(blk_cell BK231.out 0).trans rfl
     have hcz32_1:w17.cell? ⟨gb231,1,none⟩=some (.int .i64 t228):=(blk_cell BK231.out 1).trans rfl
     have hcz32_2:w17.cell? ⟨gb231,2,none⟩=some (.int .i64 t229):=(blk_cell BK231.out 2).trans rfl
     have hfz32_0:=blk_frozen BK231.out 0
     have hfz32_1:=blk_frozen BK231.out 1
     have hfz32_2:=blk_frozen BK231.out 2
     go_wp2
     go_meet
     case rel=>exact ⟨_,(true),(by first|rfl|(simp;done)|(simp [*];done)|(simp;intro e1_ e2_ e3_;exfalso;revert c20b0;simp [e1_,e2_,e3_];done)|(simp_all;done)),H',⟨by first|omega|exact Nat.le_refl _⟩,⟨bk BK230⟩,⟨bk BK231⟩,⟨be⟩⟩
     all_goals (exfalso;simp_all;done)
    ·rw [if_neg c29] at H
     have c29b0:(t233 != (!(t224 == t227) || (!(t225 == t228) || (!(t226 == t229)))))=false:=by simpa using c29
     (try (have c29b1:decide (t233=(!(t224 == t227) || (!(t225 == t228) || (!(t226 == t229)))))=true:=by simpa using c29))
     (try (have c29b2:(t233 == (!(t224 == t227) || (!(t225 == t228) || (!(t226 == t229)))))=true:=by simpa using c29))
     clear c29
     replace H:=Option.bind_eq_some_iff.mp H
     obtain ⟨t235,A330,H⟩:=H
     try dsimp only at H
     have A33:=Aside0.mk A330
     clear A330
     have H':=Aside0.mk H
     clear H
     have hnb34:=NB230_231.out
     have hnc34:=NB231_230.out
     have hcz35_0:w17.cell? ⟨gb230,0,none⟩=some (.int .i64 t224):=(blk_cell BK230.out 0).trans rfl
     have hcz35_1:w17.cell? ⟨gb230,1,none⟩=some (.int .i64 t225):=(blk_cell BK230.out 1).trans rfl
     have hcz35_2:w17.cell? ⟨gb230,2,none⟩=some (.int .i64 t226):=(blk_cell BK230.out 2).trans rfl
     have hfz35_0:=blk_frozen BK230.out 0
     have hfz35_1:=blk_frozen BK230.out 1
     have hfz35_2:=blk_frozen BK230.out 2
     have hcz36_0:w17.cell? ⟨gb231,0,none⟩=some (.int .i64 t227):=(blk_cell BK231.out 0).trans rfl
     have hcz36_1:w17.cell? ⟨gb231,1,none⟩=some (.int .i64 t228):=(blk_cell BK231.out 1).trans rfl
     have hcz36_2:w17.cell? ⟨gb231,2,none⟩=some (.int .i64 t229):=(blk_cell BK231.out 2).trans rfl
     have hfz36_0:=blk_frozen BK231.out 0
     have hfz36_1:=blk_frozen BK231.out 1
     have hfz36_2:=blk_frozen BK231.out 2
     go_wp2_with (first|(go_at_call 25;(with_reducible refine (spec_LessStamp.calls t224 t225 t226 t227 t228 t229 t235 _ A33.out).mono ?_);rintro e w37 ⟨rfl,hb⟩;have n0_:=Aside0.mk (blk_below (g:=gb230) (o:=.cells #[.int .i64 t224,.int .i64 t225,.int .i64 t226] 25 (0,0)) (bk BK230) hb);have n1_:=Aside0.mk (blk_below (g:=gb231) (o:=.cells #[.int .i64 t227,.int .i64 t228,.int .i64 t229] 25 (0,0)) (bk BK231) hb);have n2_:=bs hb;clear BK230;clear BK231;clear HB;have BK230:=n0_;have BK231:=n1_;have HB:=n2_;clear n0_ n1_ n2_;(try clear hb);(try clear hb2);(try clear hk);(try clear hi)))
     go_meet
     case rel=>exact ⟨_,((false != t235)),(by first|rfl|(simp;done)|(simp [*];done)|(simp;intro e1_ e2_ e3_;exfalso;revert c20b0;simp [e1_,e2_,e3_];done)|(simp_all;done)),H',⟨by first|omega|exact Nat.le_refl _⟩,⟨bk BK230⟩,⟨bk BK231⟩,⟨be⟩⟩
     all_goals (exfalso;simp_all;done)
  case rest=>
   clear HC7
   try clear c1
   try clear c2
   try clear p2
   try clear c3
   try clear c6
   try clear c11
   try clear c18
   try clear c19
   try clear c20
   try clear c20b0
   try clear c20b1
   try clear c20b2
   try clear c21
   try clear c22
   try clear c23
   try clear c24
   try clear c25
   try clear c29
   try clear c29b0
   try clear c29b1
   try clear c29b2
   try clear c30
   try clear c34
   try clear hcz12_0
   try clear hcz12_1
   try clear hcz12_2
   try clear hcz13_0
   try clear hcz13_1
   try clear hcz13_2
   try clear hcz15_0
   try clear hcz15_1
   try clear hcz15_2
   try clear hcz16_0
   try clear hcz16_1
   try clear hcz16_2
   try clear hcz22_0
   try clear hcz22_1
   try clear hcz22_2
   try clear hcz23_0
   try clear hcz23_1
   try clear hcz23_2
   try clear hcz26_0
   try clear hcz26_1
   try clear hcz26_2
   try clear hcz27_0
   try clear hcz27_1
   try clear hcz27_2
   try clear hcz31_0
   try clear hcz31_1
   try clear hcz31_2
   try clear hcz32_0
   try clear hcz32_1
   try clear hcz32_2
   try clear hcz35_0
   try clear hcz35_1
   try clear hcz35_2
   try clear hcz36_0
   try clear hcz36_1
   try clear hcz36_2
   try clear hfz12_0
   try clear hfz12_1
   try clear hfz12_2
   try clear hfz13_0
   try clear hfz13_1
   try clear hfz13_2
   try clear hfz15_0
   try clear hfz15_1
   try clear hfz15_2
   try clear hfz16_0
   try clear hfz16_1
   try clear hfz16_2
   try clear hfz22_0
   try clear hfz22_1
   try clear hfz22_2
   try clear hfz23_0
   try clear hfz23_1
   try clear hfz23_2
   try clear hfz26_0
   try clear hfz26_1
   try clear hfz26_2
   try clear hfz27_0
   try clear hfz27_1
   try clear hfz27_2
   try clear hfz31_0
   try clear hfz31_1
   try clear hfz31_2
   try clear hfz32_0
   try clear hfz32_1
   try clear hfz32_2
   try clear hfz35_0
   try clear hfz35_1
   try clear hfz35_2
   try clear hfz36_0
   try clear hfz36_1
   try clear hfz36_2
   obtain ⟨kq,x43_6,rfl,HA,HJ6,BK230,BK231,HB⟩:=hcut
   cases kq with
   | zero=>exact absurd HA.out (by simp [laws_FnStampOrder.j0])
   | succ kj6=>
    have H:=HA.out
    clear HA
    simp only [laws_FnStampOrder.j0] at H
    by_cases c38:x43_6=true
    ·subst c38
     rw [if_pos rfl] at H
     exact absurd ((Option.some.inj H).trans hr_.out) (by decide)
    ·replace c38:=Bool.eq_false_iff.mpr c38
     subst c38
     have H1:((impl_StampText.f t224 t225 t226).bind fun t236=>((impl_ParseStamp.f kj6 t236).bind fun bt237=>((spec_StampOk.f t224 t225 t226).bind fun t242=>(if t242=true then (if bt237.2.2.2=true then (if (bt237.1 == t224 && (bt237.2.1 == t225 && (bt237.2.2.1 == t226)))=true then ((impl_StampOk.f t224 t225 t226).bind fun t243=>(some t243)) else (some false)) else (some false)) else (if t236.toList=([]:List UInt8) then ((impl_StampOk.f t224 t225 t226).bind fun t244=>(some (!t244))) else (some false))))))=some r:=by rw [if_neg (show ¬ (false=true) by decide)] at H;exact H
     clear H
     have H:=H1
     clear H1
     replace H:=Option.bind_eq_some_iff.mp H
     obtain ⟨t236,A390,H⟩:=H
     try dsimp only at H
     have A39:=Aside0.mk A390
     clear A390
     replace H:=Option.bind_eq_some_iff.mp H
     obtain ⟨⟨t237,t238,t239,t240⟩,A400,H⟩:=H
     try dsimp only at H
     have A40:=Aside0.mk A400
     clear A400
     replace H:=Option.bind_eq_some_iff.mp H
     obtain ⟨t242,A410,H⟩:=H
     try dsimp only at H
     have A41:=Aside0.mk A410
     clear A410
     by_cases c42:t242=true
     ·subst c42
      rw [if_pos rfl] at H
      by_cases c43:t240=true
      ·subst c43
       rw [if_pos rfl] at H
       by_cases c44:(t237 == t224 && (t238 == t225 && (t239 == t226)))=true
       ·rw [if_pos c44] at H
        have c44b0:(t237 == t224 && (t238 == t225 && (t239 == t226)))=true:=c44
        (try (have c44b1:decide (t237=t224 && (t238 == t225 && (t239 == t226)))=true:=by simpa using c44))
        (try (have c44b2:(t237 == t224 && (t238 == t225 && (t239 == t226)))=true:=by simpa using c44))
        clear c44
        replace H:=Option.bind_eq_some_iff.mp H
        obtain ⟨t243,A450,H⟩:=H
        try dsimp only at H
        have A45:=Aside0.mk A450
        clear A450
        obtain rfl:=Option.some.inj H
        have hnb46:=NB230_231.out
        have hnc46:=NB231_230.out
        have hcz47_0:wc.cell? ⟨gb230,0,none⟩=some (.int .i64 t224):=(blk_cell BK230.out 0).trans rfl
        have hcz47_1:wc.cell? ⟨gb230,1,none⟩=some (.int .i64 t225):=(blk_cell BK230.out 1).trans rfl
        have hcz47_2:wc.cell? ⟨gb230,2,none⟩=some (.int .i64 t226):=(blk_cell BK230.out 2).trans rfl
        have hfz47_0:=blk_frozen BK230.out 0
        have hfz47_1:=blk_frozen BK230.out 1
        have hfz47_2:=blk_frozen BK230.out 2
        go_wp2_with (first|((with_reducible refine gate_callee (f:=13) rfl ?_);refine goesL_ (some 45) rfl rfl Tryd.func13 (by kernel_rfl) rfl #[.agg #[.int .i64 t224,.int .i64 t225,.int .i64 t226]] rfl (by (try simp only [List.map_toArray,List.map_cons,List.map_nil]);first|done|rfl|(simp only [List.length_drop,List.length_take];rfl)) ?_;(with_reducible refine (impl_StampText.calls t224 t225 t226 t236 _ ?side1 A39.out).mono ?_);(case side1=>exact lb hL);rintro e w48 ⟨rfl,hb⟩;refine ⟨_,rfl,?_⟩;have n0_:=Aside0.mk (blk_below (g:=gb230) (o:=.cells #[.int .i64 t224,.int .i64 t225,.int .i64 t226] 25 (0,0)) (bk BK230) hb);have n1_:=Aside0.mk (blk_below (g:=gb231) (o:=.cells #[.int .i64 t227,.int .i64 t228,.int .i64 t229] 25 (0,0)) (bk BK231) hb);have n2_:=bs hb;clear BK230;clear BK231;clear HB;have BK230:=n0_;have BK231:=n1_;have HB:=n2_;clear n0_ n1_ n2_;(try clear hb);(try clear hb2);(try clear hk);(try clear hi))|((with_reducible refine gate_callee (f:=20) rfl ?_);refine goesL_ (some 48) rfl rfl Tryd.func20 (by kernel_rfl) rfl #[.string t236] rfl (by (try simp only [List.map_toArray,List.map_cons,List.map_nil]);first|done|rfl|(simp only [List.length_drop,List.length_take];rfl)) ?_;(with_reducible refine (impl_ParseStamp.calls kj6 t236 t237 t238 t239 true _ ?side1 A40.out).mono ?_);(case side1=>exact lb hL);rintro e w49 ⟨rfl,hb⟩;refine ⟨_,rfl,?_⟩;have n0_:=Aside0.mk (blk_below (g:=gb230) (o:=.cells #[.int .i64 t224,.int .i64 t225,.int .i64 t226] 25 (0,0)) (bk BK230) hb);have n1_:=Aside0.mk (blk_below (g:=gb231) (o:=.cells #[.int .i64 t227,.int .i64 t228,.int .i64 t229] 25 (0,0)) (bk BK231) hb);have n2_:=bs hb;clear BK230;clear BK231;clear HB;have BK230:=n0_;have BK231:=n1_;have HB:=n2_;clear n0_ n1_ n2_;(try clear hb);(try clear hb2);(try clear hk);(try clear hi))|((with_reducible refine gate_dst (N:=8) rfl ?_);refine box_event ?hg (N:=8) ?hd (cs:=#[.int .i64 0,.int .i64 0,.int .i64 0]) (t:=25) ?hr ?_;(case hd=>rfl);(case hg=>rfl);(case hr=>first|(go_simp;done)|(go_simp;rfl));intro gb241 hg w50 hbox hb;have n0_:=Aside0.mk (blk_below (g:=gb230) (o:=.cells #[.int .i64 t224,.int .i64 t225,.int .i64 t226] 25 (0,0)) (bk BK230) hb);have n1_:=Aside0.mk (blk_below (g:=gb231) (o:=.cells #[.int .i64 t227,.int .i64 t228,.int .i64 t229] 25 (0,0)) (bk BK231) hb);have n2_:=bs hb;have n3_:=Aside0.mk (hbox);have n4_:=Aside0.mk ((by rw [hg];exact (below_size be):w.heap.size≤gb241));have n5_:=Aside0.mk ((by rw [hg];exact (below_size be):w.heap.size≤gb241));have n6_:=Aside0.mk ((by rw [hg];exact Nat.ne_of_lt (blk_lt (g:=gb230) (o:=.cells #[.int .i64 t224,.int .i64 t225,.int .i64 t226] 25 (0,0)) (bk BK230)):gb230 ≠ gb241));have n7_:=Aside0.mk ((by rw [hg];exact Nat.ne_of_gt (blk_lt (g:=gb230) (o:=.cells #[.int .i64 t224,.int .i64 t225,.int .i64 t226] 25 (0,0)) (bk BK230)):gb241 ≠ gb230));have n8_:=Aside0.mk ((by rw [hg];exact Nat.ne_of_lt (blk_lt (g:=gb231) (o:=.cells #[.int .i64 t227,.int .i64 t228,.int .i64 t229] 25 (0,0)) (bk BK231)):gb231 ≠ gb241));have n9_:=Aside0.mk ((by rw [hg];exact Nat.ne_of_gt (blk_lt (g:=gb231) (o:=.cells #[.int .i64 t227,.int .i64 t228,.int .i64 t229] 25 (0,0)) (bk BK231)):gb241 ≠ gb231));clear BK230;clear BK231;clear HB;have BK230:=n0_;have BK231:=n1_;have HB:=n2_;have BK241:=n3_;have GW241:=n4_;have GE241:=n5_;have NB230_241:=n6_;have NB241_230:=n7_;have NB231_241:=n8_;have NB241_231:=n9_;clear n0_ n1_ n2_ n3_ n4_ n5_ n6_ n7_ n8_ n9_;clear hb hbox hg;have hnb51:=NB241_230.out;have hnc51:=NB230_241.out;have hnb52:=NB241_231.out;have hnc52:=NB231_241.out;have hcz53_0:w50.cell? ⟨gb241,0,none⟩=some (.int .i64 0):=(blk_cell BK241.out 0).trans rfl;have hcz53_1:w50.cell? ⟨gb241,1,none⟩=some (.int .i64 0):=(blk_cell BK241.out 1).trans rfl;have hcz53_2:w50.cell? ⟨gb241,2,none⟩=some (.int .i64 0):=(blk_cell BK241.out 2).trans rfl;have hfz53_0:=blk_frozen BK241.out 0;have hfz53_1:=blk_frozen BK241.out 1;have hfz53_2:=blk_frozen BK241.out 2;have hcz54_0:w50.cell? ⟨gb230,0,none⟩=some (.int .i64 t224):=(blk_cell BK230.out 0).trans rfl;have hcz54_1:w50.cell? ⟨gb230,1,none⟩=some (.int .i64 t225):=(blk_cell BK230.out 1).trans rfl;have hcz54_2:w50.cell? ⟨gb230,2,none⟩=some (.int .i64 t226):=(blk_cell BK230.out 2).trans rfl;have hfz54_0:=blk_frozen BK230.out 0;have hfz54_1:=blk_frozen BK230.out 1;have hfz54_2:=blk_frozen BK230.out 2)|((with_reducible refine gate_callee (f:=26) rfl ?_);refine goesL_ (some 52) rfl rfl Tryd.func26 (by kernel_rfl) rfl #[.agg #[.int .i64 t224,.int .i64 t225,.int .i64 t226]] rfl (by (try simp only [List.map_toArray,List.map_cons,List.map_nil]);first|done|rfl|(simp only [List.length_drop,List.length_take];rfl)) ?_;(with_reducible refine (spec_StampOk.calls t224 t225 t226 true _ A41.out).mono ?_);rintro e w55 ⟨rfl,hb⟩;refine ⟨_,rfl,?_⟩;have n0_:=Aside0.mk (blk_below (g:=gb230) (o:=.cells #[.int .i64 t224,.int .i64 t225,.int .i64 t226] 25 (0,0)) (by (with_reducible repeat (first|refine blk_drewN ?_ _|refine blk_drew ?_|refine blk_alloc ?_ _));refine blk_far ?_ NB230_241.out _;(with_reducible repeat (first|refine blk_drewN ?_ _|refine blk_drew ?_|refine blk_alloc ?_ _));refine blk_far ?_ NB230_241.out _;(with_reducible repeat (first|refine blk_drewN ?_ _|refine blk_drew ?_|refine blk_alloc ?_ _));refine blk_far ?_ NB230_241.out _;(with_reducible repeat (first|refine blk_drewN ?_ _|refine blk_drew ?_|refine blk_alloc ?_ _));exact BK230.out) hb);have n1_:=Aside0.mk (blk_below (g:=gb231) (o:=.cells #[.int .i64 t227,.int .i64 t228,.int .i64 t229] 25 (0,0)) (by (with_reducible repeat (first|refine blk_drewN ?_ _|refine blk_drew ?_|refine blk_alloc ?_ _));refine blk_far ?_ NB231_241.out _;(with_reducible repeat (first|refine blk_drewN ?_ _|refine blk_drew ?_|refine blk_alloc ?_ _));refine blk_far ?_ NB231_241.out _;(with_reducible repeat (first|refine blk_drewN ?_ _|refine blk_drew ?_|refine blk_alloc ?_ _));refine blk_far ?_ NB231_241.out _;(with_reducible repeat (first|refine blk_drewN ?_ _|refine blk_drew ?_|refine blk_alloc ?_ _));exact BK231.out) hb);have n2_:=Aside0.mk (blk_below (g:=gb241) (o:=.cells #[.int .i64 t237,.int .i64 t238,.int .i64 t239] 25 (0,0)) (by (with_reducible repeat (first|refine blk_drewN ?_ _|refine blk_drew ?_|refine blk_alloc ?_ _));refine blk_put (cs:=#[.int .i64 t237,.int .i64 t238,.int .i64 0]) ?_ 2 _ rfl;(with_reducible repeat (first|refine blk_drewN ?_ _|refine blk_drew ?_|refine blk_alloc ?_ _));refine blk_put (cs:=#[.int .i64 t237,.int .i64 0,.int .i64 0]) ?_ 1 _ rfl;(with_reducible repeat (first|refine blk_drewN ?_ _|refine blk_drew ?_|refine blk_alloc ?_ _));refine blk_put (cs:=#[.int .i64 0,.int .i64 0,.int .i64 0]) ?_ 0 _ rfl;(with_reducible repeat (first|refine blk_drewN ?_ _|refine blk_drew ?_|refine blk_alloc ?_ _));exact BK241.out) hb);have n3_:=bs hb;clear BK230;clear BK231;clear BK241;clear HB;have BK230:=n0_;have BK231:=n1_;have BK241:=n2_;have HB:=n3_;clear n0_ n1_ n2_ n3_;(try clear hb);(try clear hb2);(try clear hk);(try clear hi);have hcz56_0:w55.cell? ⟨gb241,0,none⟩=some (.int .i64 t237):=(blk_cell BK241.out 0).trans rfl;have hcz56_1:w55.cell? ⟨gb241,1,none⟩=some (.int .i64 t238):=(blk_cell BK241.out 1).trans rfl;have hcz56_2:w55.cell? ⟨gb241,2,none⟩=some (.int .i64 t239):=(blk_cell BK241.out 2).trans rfl;have hfz56_0:=blk_frozen BK241.out 0;have hfz56_1:=blk_frozen BK241.out 1;have hfz56_2:=blk_frozen BK241.out 2;have hcz57_0:w55.cell? ⟨gb230,0,none⟩=some (.int .i64 t224):=(blk_cell BK230.out 0).trans rfl;have hcz57_1:w55.cell? ⟨gb230,1,none⟩=some (.int .i64 t225):=(blk_cell BK230.out 1).trans rfl;have hcz57_2:w55.cell? ⟨gb230,2,none⟩=some (.int .i64 t226):=(blk_cell BK230.out 2).trans rfl;have hfz57_0:=blk_frozen BK230.out 0;have hfz57_1:=blk_frozen BK230.out 1;have hfz57_2:=blk_frozen BK230.out 2)|(go_at_call 27;(with_reducible refine (impl_StampOk.calls t224 t225 t226 t243 _ A45.out).mono ?_);rintro e w58 ⟨rfl,hb⟩;have n0_:=Aside0.mk (blk_below (g:=gb230) (o:=.cells #[.int .i64 t224,.int .i64 t225,.int .i64 t226] 25 (0,0)) (bk BK230) hb);have n1_:=Aside0.mk (blk_below (g:=gb231) (o:=.cells #[.int .i64 t227,.int .i64 t228,.int .i64 t229] 25 (0,0)) (bk BK231) hb);have n2_:=Aside0.mk (blk_below (g:=gb241) (o:=.cells #[.int .i64 t237,.int .i64 t238,.int .i64 t239] 25 (0,0)) (bk BK241) hb);have n3_:=bs hb;clear BK230;clear BK231;clear BK241;clear HB;have BK230:=n0_;have BK231:=n1_;have BK241:=n2_;have HB:=n3_;clear n0_ n1_ n2_ n3_;(try clear hb);(try clear hb2);(try clear hk);(try clear hi)))
        go_ret
        exact ⟨rz,be⟩
       ·rw [if_neg c44] at H
        have c44b0:(t237 == t224 && (t238 == t225 && (t239 == t226)))=false:=by simpa using c44
        (try (have c44b1:decide (t237=t224 && (t238 == t225 && (t239 == t226)))=false:=by simpa using c44))
        (try (have c44b2:(t237 == t224 && (t238 == t225 && (t239 == t226)))=false:=by simpa using c44))
        (try (have c44b3 : ¬ (t237=t224 && (t238 == t225 && (t239 == t226))):=by simpa using c44))
        clear c44
        exact absurd ((Option.some.inj H).trans hr_.out) (by decide)
      ·replace c43:=Bool.eq_false_iff.mpr c43
       subst c43
       have H1:(some false)=some r:=by rw [if_neg (show ¬ (false=true) by decide)] at H;exact H
       clear H
       have H:=H1
       clear H1
       exact absurd ((Option.some.inj H).trans hr_.out) (by decide)
     ·replace c42:=Bool.eq_false_iff.mpr c42
      subst c42
      have H1:(if t236.toList=([]:List UInt8) then ((impl_StampOk.f t224 t225 t226).bind fun t244=>(some (!t244))) else (some false))=some r:=by rw [if_neg (show ¬ (false=true) by decide)] at H;exact H
      clear H
      have H:=H1
      clear H1
      by_cases c59:t236.toList=([]:List UInt8)
      ·rw [if_pos c59] at H
       have c59b0:(t236.toList == ([]:List UInt8))=true:=beq_iff_eq.mpr c59
       have c59b1:(t236.toList != ([]:List UInt8))=false:=bne_eq_false_iff_eq.mpr c59
       clear c59
       replace H:=Option.bind_eq_some_iff.mp H
       obtain ⟨t244,A600,H⟩:=H
       try dsimp only at H
       have A60:=Aside0.mk A600
       clear A600
       obtain rfl:=Option.some.inj H
       have hnb61:=NB230_231.out
       have hnc61:=NB231_230.out
       have hcz62_0:wc.cell? ⟨gb230,0,none⟩=some (.int .i64 t224):=(blk_cell BK230.out 0).trans rfl
       have hcz62_1:wc.cell? ⟨gb230,1,none⟩=some (.int .i64 t225):=(blk_cell BK230.out 1).trans rfl
       have hcz62_2:wc.cell? ⟨gb230,2,none⟩=some (.int .i64 t226):=(blk_cell BK230.out 2).trans rfl
       have hfz62_0:=blk_frozen BK230.out 0
       have hfz62_1:=blk_frozen BK230.out 1
       have hfz62_2:=blk_frozen BK230.out 2
       go_wp2_with (first|((with_reducible refine gate_callee (f:=13) rfl ?_);refine goesL_ (some 45) rfl rfl Tryd.func13 (by kernel_rfl) rfl #[.agg #[.int .i64 t224,.int .i64 t225,.int .i64 t226]] rfl (by (try simp only [List.map_toArray,List.map_cons,List.map_nil]);first|done|rfl|(simp only [List.length_drop,List.length_take];rfl)) ?_;(with_reducible refine (impl_StampText.calls t224 t225 t226 t236 _ ?side1 A39.out).mono ?_);(case side1=>exact lb hL);rintro e w63 ⟨rfl,hb⟩;refine ⟨_,rfl,?_⟩;have n0_:=Aside0.mk (blk_below (g:=gb230) (o:=.cells #[.int .i64 t224,.int .i64 t225,.int .i64 t226] 25 (0,0)) (bk BK230) hb);have n1_:=Aside0.mk (blk_below (g:=gb231) (o:=.cells #[.int .i64 t227,.int .i64 t228,.int .i64 t229] 25 (0,0)) (bk BK231) hb);have n2_:=bs hb;clear BK230;clear BK231;clear HB;have BK230:=n0_;have BK231:=n1_;have HB:=n2_;clear n0_ n1_ n2_;(try clear hb);(try clear hb2);(try clear hk);(try clear hi))|((with_reducible refine gate_callee (f:=20) rfl ?_);refine goesL_ (some 48) rfl rfl Tryd.func20 (by kernel_rfl) rfl #[.string t236] rfl (by (try simp only [List.map_toArray,List.map_cons,List.map_nil]);first|done|rfl|(simp only [List.length_drop,List.length_take];rfl)) ?_;(with_reducible refine (impl_ParseStamp.calls kj6 t236 t237 t238 t239 t240 _ ?side1 A40.out).mono ?_);(case side1=>exact lb hL);rintro e w64 ⟨rfl,hb⟩;refine ⟨_,rfl,?_⟩;have n0_:=Aside0.mk (blk_below (g:=gb230) (o:=.cells #[.int .i64 t224,.int .i64 t225,.int .i64 t226] 25 (0,0)) (bk BK230) hb);have n1_:=Aside0.mk (blk_below (g:=gb231) (o:=.cells #[.int .i64 t227,.int .i64 t228,.int .i64 t229] 25 (0,0)) (bk BK231) hb);have n2_:=bs hb;clear BK230;clear BK231;clear HB;have BK230:=n0_;have BK231:=n1_;have HB:=n2_;clear n0_ n1_ n2_;(try clear hb);(try clear hb2);(try clear hk);(try clear hi))|((with_reducible refine gate_dst (N:=8) rfl ?_);refine box_event ?hg (N:=8) ?hd (cs:=#[.int .i64 0,.int .i64 0,.int .i64 0]) (t:=25) ?hr ?_;(case hd=>rfl);(case hg=>rfl);(case hr=>first|(go_simp;done)|(go_simp;rfl));intro gb241 hg w65 hbox hb;have n0_:=Aside0.mk (blk_below (g:=gb230) (o:=.cells #[.int .i64 t224,.int .i64 t225,.int .i64 t226] 25 (0,0)) (bk BK230) hb);have n1_:=Aside0.mk (blk_below (g:=gb231) (o:=.cells #[.int .i64 t227,.int .i64 t228,.int .i64 t229] 25 (0,0)) (bk BK231) hb);have n2_:=bs hb;have n3_:=Aside0.mk (hbox);have n4_:=Aside0.mk ((by rw [hg];exact (below_size be):w.heap.size≤gb241));have n5_:=Aside0.mk ((by rw [hg];exact (below_size be):w.heap.size≤gb241));have n6_:=Aside0.mk ((by rw [hg];exact Nat.ne_of_lt (blk_lt (g:=gb230) (o:=.cells #[.int .i64 t224,.int .i64 t225,.int .i64 t226] 25 (0,0)) (bk BK230)):gb230 ≠ gb241));have n7_:=Aside0.mk ((by rw [hg];exact Nat.ne_of_gt (blk_lt (g:=gb230) (o:=.cells #[.int .i64 t224,.int .i64 t225,.int .i64 t226] 25 (0,0)) (bk BK230)):gb241 ≠ gb230));have n8_:=Aside0.mk ((by rw [hg];exact Nat.ne_of_lt (blk_lt (g:=gb231) (o:=.cells #[.int .i64 t227,.int .i64 t228,.int .i64 t229] 25 (0,0)) (bk BK231)):gb231 ≠ gb241));have n9_:=Aside0.mk ((by rw [hg];exact Nat.ne_of_gt (blk_lt (g:=gb231) (o:=.cells #[.int .i64 t227,.int .i64 t228,.int .i64 t229] 25 (0,0)) (bk BK231)):gb241 ≠ gb231));clear BK230;clear BK231;clear HB;have BK230:=n0_;have BK231:=n1_;have HB:=n2_;have BK241:=n3_;have GW241:=n4_;have GE241:=n5_;have NB230_241:=n6_;have NB241_230:=n7_;have NB231_241:=n8_;have NB241_231:=n9_;clear n0_ n1_ n2_ n3_ n4_ n5_ n6_ n7_ n8_ n9_;clear hb hbox hg;have hnb66:=NB241_230.out;have hnc66:=NB230_241.out;have hnb67:=NB241_231.out;have hnc67:=NB231_241.out;have hcz68_0:w65.cell? ⟨gb241,0,none⟩=some (.int .i64 0):=(blk_cell BK241.out 0).trans rfl;have hcz68_1:w65.cell? ⟨gb241,1,none⟩=some (.int .i64 0):=(blk_cell BK241.out 1).trans rfl;have hcz68_2:w65.cell? ⟨gb241,2,none⟩=some (.int .i64 0):=(blk_cell BK241.out 2).trans rfl;have hfz68_0:=blk_frozen BK241.out 0;have hfz68_1:=blk_frozen BK241.out 1;have hfz68_2:=blk_frozen BK241.out 2;have hcz69_0:w65.cell? ⟨gb230,0,none⟩=some (.int .i64 t224):=(blk_cell BK230.out 0).trans rfl;have hcz69_1:w65.cell? ⟨gb230,1,none⟩=some (.int .i64 t225):=(blk_cell BK230.out 1).trans rfl;have hcz69_2:w65.cell? ⟨gb230,2,none⟩=some (.int .i64 t226):=(blk_cell BK230.out 2).trans rfl;have hfz69_0:=blk_frozen BK230.out 0;have hfz69_1:=blk_frozen BK230.out 1;have hfz69_2:=blk_frozen BK230.out 2)|((with_reducible refine gate_callee (f:=26) rfl ?_);refine goesL_ (some 52) rfl rfl Tryd.func26 (by kernel_rfl) rfl #[.agg #[.int .i64 t224,.int .i64 t225,.int .i64 t226]] rfl (by (try simp only [List.map_toArray,List.map_cons,List.map_nil]);first|done|rfl|(simp only [List.length_drop,List.length_take];rfl)) ?_;(with_reducible refine (spec_StampOk.calls t224 t225 t226 false _ A41.out).mono ?_);rintro e w70 ⟨rfl,hb⟩;refine ⟨_,rfl,?_⟩;have n0_:=Aside0.mk (blk_below (g:=gb230) (o:=.cells #[.int .i64 t224,.int .i64 t225,.int .i64 t226] 25 (0,0)) (by (with_reducible repeat (first|refine blk_drewN ?_ _|refine blk_drew ?_|refine blk_alloc ?_ _));refine blk_far ?_ NB230_241.out _;(with_reducible repeat (first|refine blk_drewN ?_ _|refine blk_drew ?_|refine blk_alloc ?_ _));refine blk_far ?_ NB230_241.out _;(with_reducible repeat (first|refine blk_drewN ?_ _|refine blk_drew ?_|refine blk_alloc ?_ _));refine blk_far ?_ NB230_241.out _;(with_reducible repeat (first|refine blk_drewN ?_ _|refine blk_drew ?_|refine blk_alloc ?_ _));exact BK230.out) hb);have n1_:=Aside0.mk (blk_below (g:=gb231) (o:=.cells #[.int .i64 t227,.int .i64 t228,.int .i64 t229] 25 (0,0)) (by (with_reducible repeat (first|refine blk_drewN ?_ _|refine blk_drew ?_|refine blk_alloc ?_ _));refine blk_far ?_ NB231_241.out _;(with_reducible repeat (first|refine blk_drewN ?_ _|refine blk_drew ?_|refine blk_alloc ?_ _));refine blk_far ?_ NB231_241.out _;(with_reducible repeat (first|refine blk_drewN ?_ _|refine blk_drew ?_|refine blk_alloc ?_ _));refine blk_far ?_ NB231_241.out _;(with_reducible repeat (first|refine blk_drewN ?_ _|refine blk_drew ?_|refine blk_alloc ?_ _));exact BK231.out) hb);have n2_:=Aside0.mk (blk_below (g:=gb241) (o:=.cells #[.int .i64 t237,.int .i64 t238,.int .i64 t239] 25 (0,0)) (by (with_reducible repeat (first|refine blk_drewN ?_ _|refine blk_drew ?_|refine blk_alloc ?_ _));refine blk_put (cs:=#[.int .i64 t237,.int .i64 t238,.int .i64 0]) ?_ 2 _ rfl;(with_reducible repeat (first|refine blk_drewN ?_ _|refine blk_drew ?_|refine blk_alloc ?_ _));refine blk_put (cs:=#[.int .i64 t237,.int .i64 0,.int .i64 0]) ?_ 1 _ rfl;(with_reducible repeat (first|refine blk_drewN ?_ _|refine blk_drew ?_|refine blk_alloc ?_ _));refine blk_put (cs:=#[.int .i64 0,.int .i64 0,.int .i64 0]) ?_ 0 _ rfl;(with_reducible repeat (first|refine blk_drewN ?_ _|refine blk_drew ?_|refine blk_alloc ?_ _));exact BK241.out) hb);have n3_:=bs hb;clear BK230;clear BK231;clear BK241;clear HB;have BK230:=n0_;have BK231:=n1_;have BK241:=n2_;have HB:=n3_;clear n0_ n1_ n2_ n3_;(try clear hb);(try clear hb2);(try clear hk);(try clear hi);have hcz71_0:w70.cell? ⟨gb230,0,none⟩=some (.int .i64 t224):=(blk_cell BK230.out 0).trans rfl;have hcz71_1:w70.cell? ⟨gb230,1,none⟩=some (.int .i64 t225):=(blk_cell BK230.out 1).trans rfl;have hcz71_2:w70.cell? ⟨gb230,2,none⟩=some (.int .i64 t226):=(blk_cell BK230.out 2).trans rfl;have hfz71_0:=blk_frozen BK230.out 0;have hfz71_1:=blk_frozen BK230.out 1;have hfz71_2:=blk_frozen BK230.out 2)|(go_at_call 27;(with_reducible refine (impl_StampOk.calls t224 t225 t226 t244 _ A60.out).mono ?_);rintro e w72 ⟨rfl,hb⟩;have n0_:=Aside0.mk (blk_below (g:=gb230) (o:=.cells #[.int .i64 t224,.int .i64 t225,.int .i64 t226] 25 (0,0)) (bk BK230) hb);have n1_:=Aside0.mk (blk_below (g:=gb231) (o:=.cells #[.int .i64 t227,.int .i64 t228,.int .i64 t229] 25 (0,0)) (bk BK231) hb);have n2_:=Aside0.mk (blk_below (g:=gb241) (o:=.cells #[.int .i64 t237,.int .i64 t238,.int .i64 t239] 25 (0,0)) (bk BK241) hb);have n3_:=bs hb;clear BK230;clear BK231;clear BK241;clear HB;have BK230:=n0_;have BK231:=n1_;have BK241:=n2_;have HB:=n3_;clear n0_ n1_ n2_ n3_;(try clear hb);(try clear hb2);(try clear hk);(try clear hi)))
       go_ret
       exact ⟨rz,be⟩
      ·rw [if_neg c59] at H
       have c59b0:(t236.toList == ([]:List UInt8))=false:=beq_eq_false_iff_ne.mpr c59
       have c59b1:(t236.toList != ([]:List UInt8))=true:=bne_iff_ne.mpr c59
       exact absurd ((Option.some.inj H).trans hr_.out) (by decide)
end Go.Proofs.YtnoglmdicdpabaaDoor.PFnStampOrder
