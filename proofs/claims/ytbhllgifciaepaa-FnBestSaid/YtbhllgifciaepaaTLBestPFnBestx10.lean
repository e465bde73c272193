/- Trimmed by a program of this session (trim.py). Not trusted: Lean checks it. -/
import Derived.Test.YtbhllgifciaepaaTLBestPFnBestx0
import Derived.Test.YtbhllgifciaepaaTLBestPFnBestx1
import Derived.Test.YtbhllgifciaepaaTLBestPFnBestx2
import Derived.Test.YtbhllgifciaepaaTLBestPFnBestx4
import Derived.Test.YtbhllgifciaepaaTLBestPFnBestx7
import Derived.Test.YtbhllgifciaepaaTLBestPFnBestx9
namespace Go.Proofs.Ytbhllgifciaepaa.PFnBest
open Go.RowKit Go.Proofs.YtbhllgifciaepaaW.PrintWords Go.Proofs.YtbhllgifciaepaaW.PrintLast Go.Proofs.YtbhllgifciaepaaW.PrintMore Go.Proofs.Ytbhllgifciaepaa.St
attribute [local go_sem] max2_int min2_int max_two min_two max_three min_three max_four min_four
set_option linter.unusedVariables false
set_option linter.unusedSimpArgs false
mutual
def laws_FnBest.j0:Nat→List (S76)→Int→Bool→Int→List (S29)→List Int→Option (Bool)
 | 0,_,_,_,_,_,_=>none
 | k+1,x5,x6,x37,x400000,x400001,x401000=>if x37=true then ((spec_Best.f k x400000 x400001 x401000 x5).bind fun t404=>(some (x6 == t404))) else ((impl_DevAt.f k x5 x6).bind fun bt405=>(if x6=(-1) then (laws_FnBest.l0 k x5 0 x401000) else ((some (([]:List Int):List Int)).bind fun y412=>(if y412.length+x401000.length < 17592186044416 then ((some (y412 ++ x401000:List Int)).bind fun y415=>((some (([x6]:List Int):List Int)).bind fun y418=>(if y415.length+y418.length < 17592186044416 then ((some (y415 ++ y418:List Int)).bind fun y421=>(if bt405.2.2.2=true then ((laws_has.f k x401000 x6).bind fun t425=>(laws_FnBest.j2 k x5 x6 t425 x400000 x400001 x401000 bt405.1 bt405.2.1 bt405.2.2.1 y421)) else (laws_FnBest.j2 k x5 x6 true x400000 x400001 x401000 bt405.1 bt405.2.1 bt405.2.2.1 y421))) else (none)))) else (none)))))
def laws_FnBest.l0:Nat→List (S76)→Int→List Int→Option (Bool)
 | 0,_,_,_=>none
 | k+1,x5,x9,x401000=>if x9 < (x5.length:Int) then (if 0≤x9 then ((laws_has.f k x401000 ((rd_T76 x5 x9).f0)).bind fun t411=>(if t411=true then (laws_FnBest.l0 k x5 (wrap64 (x9+1)) x401000) else (some false))) else (none)) else (some true)
def laws_FnBest.j2:Nat→List (S76)→Int→Bool→Int→List (S29)→List Int→Int→Int→Int→List Int→Option (Bool)
 | 0,_,_,_,_,_,_,_,_,_,_=>none
 | k+1,x5,x6,x82,x400000,x400001,x401000,x410000,x410001,x410002,x425000=>if x82=true then (some false) else ((impl_SpreadOf.f k x425000 x5).bind fun t426=>((impl_SpreadOf.f k x401000 x5).bind fun t427=>(laws_FnBest.l1 k x5 x6 (decide (t426 > t427)) 0 x400000 x400001 x401000 x410000 x410001 x410002)))
def laws_FnBest.l1:Nat→List (S76)→Int→Bool→Int→Int→List (S29)→List Int→Int→Int→Int→Option (Bool)
 | 0,_,_,_,_,_,_,_,_,_,_=>none
 | k+1,x5,x6,x11,x12,x400000,x400001,x401000,x410000,x410001,x410002=>if x12 < (x5.length:Int) then (if 0≤x12 then ((laws_has.f k x401000 ((rd_T76 x5 x12).f0)).bind fun t429=>(if t429=true then (laws_FnBest.l1 k x5 x6 x11 (wrap64 (x12+1)) x400000 x400001 x401000 x410000 x410001 x410002) else ((some (([]:List Int):List Int)).bind fun y430=>(if y430.length+x401000.length < 17592186044416 then ((some (y430 ++ x401000:List Int)).bind fun y433=>((some (([(rd_T76 x5 x12).f0]:List Int):List Int)).bind fun y437=>(if y433.length+y437.length < 17592186044416 then ((impl_SpreadOf.f k (y433 ++ y437) x5).bind fun t444=>((impl_SpreadOf.f k x401000 x5).bind fun t445=>(if t444 > t445 then (if x11=true then (if ((decide (t444 > t445)) == x11)=true then ((impl_LoadOf.f k x400000 x400001 ((rd_T76 x5 x12).f0)).bind fun t447=>((impl_LoadOf.f k x400000 x400001 x6).bind fun t448=>(laws_FnBest.j4 k x5 x6 x11 x12 (decide ((wrap64 ((wrap64 (t447+1)) * x410002)) < (wrap64 ((wrap64 (t448+1)) * ((rd_T76 x5 x12).f2))))) x400000 x400001 x401000 x410000 x410001 x410002))) else (laws_FnBest.j4 k x5 x6 x11 x12 false x400000 x400001 x401000 x410000 x410001 x410002)) else (laws_FnBest.j4 k x5 x6 x11 x12 true x400000 x400001 x401000 x410000 x410001 x410002)) else (if ((decide (t444 > t445)) == x11)=true then ((impl_LoadOf.f k x400000 x400001 ((rd_T76 x5 x12).f0)).bind fun t451=>((impl_LoadOf.f k x400000 x400001 x6).bind fun t452=>(laws_FnBest.j4 k x5 x6 x11 x12 (decide ((wrap64 ((wrap64 (t451+1)) * x410002)) < (wrap64 ((wrap64 (t452+1)) * ((rd_T76 x5 x12).f2))))) x400000 x400001 x401000 x410000 x410001 x410002))) else (laws_FnBest.j4 k x5 x6 x11 x12 false x400000 x400001 x401000 x410000 x410001 x410002))))) else (none)))) else (none))))) else (none)) else (some true)
def laws_FnBest.j4:Nat→List (S76)→Int→Bool→Int→Bool→Int→List (S29)→List Int→Int→Int→Int→Option (Bool)
 | 0,_,_,_,_,_,_,_,_,_,_,_=>none
 | k+1,x5,x6,x11,x12,x156,x400000,x400001,x401000,x410000,x410001,x410002=>if x156=true then (some false) else (laws_FnBest.l1 k x5 x6 x11 (wrap64 (x12+1)) x400000 x400001 x401000 x410000 x410001 x410002)
end
def laws_FnBest.f (k:Nat) (l0:List Int):Option (Bool):=(laws_big.f l0).bind fun t388=>(if t388=true then (some true) else ((spec_DrawBest.f k l0).bind fun bt389=>((impl_Best.f k bt389.1 bt389.2.1 bt389.2.2.1 bt389.2.2.2).bind fun t401=>((spec_Best.f k bt389.1 bt389.2.1 bt389.2.2.1 bt389.2.2.2).bind fun t402=>(if t401=t402 then ((spec_DevsOk.f k bt389.2.2.2).bind fun t403=>(laws_FnBest.j0 k bt389.2.2.2 t401 (!t403) bt389.1 bt389.2.1 bt389.2.2.1)) else (laws_FnBest.j0 k bt389.2.2.2 t401 true bt389.1 bt389.2.1 bt389.2.2.1))))))
def laws_FnBest.T12:Bool × List (List Nat × List Nat):=(true,[([],[]),([0],[0]),([],[]),([],[]),([2,3],[2,3]),([4],[4]),([5],[5]),([1,6],[1,6]),([7],[7])])
def laws_FnBest.B12:List Nat:=[0,1,0,0,12,28,60,127,255]
theorem laws_FnBest.tab12:rtab .any (opsOf Try.f8 12)=laws_FnBest.T12:=by kernel_rfl
theorem laws_FnBest.bits12:waitsOk laws_FnBest.T12.2 laws_FnBest.B12=true:=by kernel_rfl
def laws_FnBest.T18:Bool × List (List Nat × List Nat):=(true,[([],[]),([],[]),([0,1],[0,1]),([],[]),([],[]),([3,4,2],[3,4]),([2,5],[2,5]),([6,5,0,1,2,3,4,5,6],[6])])
def laws_FnBest.B18:List Nat:=[0,0,3,0,0,31,63,127]
theorem laws_FnBest.tab18:rtab .any (opsOf Try.f8 18)=laws_FnBest.T18:=by kernel_rfl
theorem laws_FnBest.bits18:waitsOk laws_FnBest.T18.2 laws_FnBest.B18=true:=by kernel_rfl
def laws_FnBest.T22:Bool × List (List Nat × List Nat):=(true,[([],[]),([0],[0]),([],[]),([],[]),([2,3],[2,3]),([4],[4]),([5],[5]),([1,6],[1,6])])
def laws_FnBest.B22:List Nat:=[0,1,0,0,12,28,60,127]
theorem laws_FnBest.tab22:rtab .any (opsOf Try.f8 22)=laws_FnBest.T22:=by kernel_rfl
theorem laws_FnBest.bits22:waitsOk laws_FnBest.T22.2 laws_FnBest.B22=true:=by kernel_rfl
def laws_FnBest.T23:Bool × List (List Nat × List Nat):=(true,[([],[]),([],[]),([1],[1]),([0,2],[0,2]),([],[]),([],[]),([4,5],[4,5]),([6],[6]),([7],[7]),([8],[8]),([3,9,3],[3,9]),([10],[10]),([],[]),([12,11,10,0,1,2,3,4,5,6,7,8,9,10,11,12],[11,12])])
def laws_FnBest.B23:List Nat:=[0,0,2,7,0,0,48,112,240,496,1023,2047,0,8191]
theorem laws_FnBest.tab23:rtab .any (opsOf Try.f8 23)=laws_FnBest.T23:=by kernel_rfl
theorem laws_FnBest.bits23:waitsOk laws_FnBest.T23.2 laws_FnBest.B23=true:=by kernel_rfl
def laws_FnBest.T24:Bool × List (List Nat × List Nat):=(true,[([],[]),([],[]),([0,1],[0,1]),([],[]),([],[]),([3,4,2],[3,4]),([2,5],[2,5]),([6,5,0,1,2,3,4,5,6],[6])])
def laws_FnBest.B24:List Nat:=[0,0,3,0,0,31,63,127]
theorem laws_FnBest.tab24:rtab .any (opsOf Try.f8 24)=laws_FnBest.T24:=by kernel_rfl
theorem laws_FnBest.bits24:waitsOk laws_FnBest.T24.2 laws_FnBest.B24=true:=by kernel_rfl
def laws_FnBest.T25:Bool × List (List Nat × List Nat):=(true,[([],[]),([0],[0]),([1],[1]),([2,1],[1,2]),([1,3],[1,3]),([4,1],[4]),([5],[5]),([5],[5]),([6,7,5],[5,6,7]),([8,5,5],[5,8]),([9],[9]),([9],[9]),([9],[9]),([11,12,9],[9,11,12]),([13,9],[9,13]),([14,9],[9,14]),([10,15,9,9],[9,10,15]),([16,9],[9,16]),([9],[9]),([18,9],[9,18]),([17,19,9],[9,17,19]),([9],[9]),([9],[9]),([21,22,16,9],[9,21,22]),([23,9],[9,23]),([9],[9]),([9],[9]),([25,26,9],[9,25,26]),([27,9],[9,27]),([28,9],[9,28]),([24,29,9],[9,24,29]),([20,30,9],[9,20,30]),([9,31,5],[5,9,31]),([5,32],[5,32])])
def laws_FnBest.B25:List Nat:=[0,1,3,7,15,31,63,63,255,511,1023,1023,1023,7167,15359,31743,65535,131071,1023,263167,1048575,1023,1023,6422527,14811135,1023,1023,100664319,234882047,503317503,1071775743,2147483647,4294967295,8589934591]
theorem laws_FnBest.tab25:rtab .any (opsOf Try.f8 25)=laws_FnBest.T25:=by kernel_rfl
theorem laws_FnBest.bits25:waitsOk laws_FnBest.T25.2 laws_FnBest.B25=true:=by kernel_rfl
set_option maxHeartbeats 8000000 in
set_option maxRecDepth 100000 in
theorem laws_FnBest.calls (k:Nat) (A0:Option Addr) (c0:Nat) (l0:List Int) (r:Bool) (w:World) (hr0:Kd.C (Kd.int .u8) w A0 l0.length l0) (hc0:l0.length≤c0) (h:laws_FnBest.f k l0=some r) (hr_:Aside0 (r=true)) :
  Calls Try.prog 8 #[.slice A0 l0.length c0] w fun e w'=>e = .returned (.bool r)∧Below w.heap.size w w':=by
 have hu43:=Try.underlying43
 have hu29:=Try.underlying29
 have hu76:=Try.underlying76
 have HR0:=Aside0.mk hr0
 have HC0:=Aside0.mk hc0
 clear hr0 hc0
 have HB:=Aside0.mk (Below.refl w.heap.size w)
 have H:((laws_big.f l0).bind fun t388=>(if t388=true then (some true) else ((spec_DrawBest.f k l0).bind fun bt389=>((impl_Best.f k bt389.1 bt389.2.1 bt389.2.2.1 bt389.2.2.2).bind fun t401=>((spec_Best.f k bt389.1 bt389.2.1 bt389.2.2.1 bt389.2.2.2).bind fun t402=>(if t401=t402 then ((spec_DevsOk.f k bt389.2.2.2).bind fun t403=>(laws_FnBest.j0 k bt389.2.2.2 t401 (!t403) bt389.1 bt389.2.1 bt389.2.2.1)) else (laws_FnBest.j0 k bt389.2.2.2 t401 true bt389.1 bt389.2.1 bt389.2.2.1)))))))=some r:=h
 clear h
 replace H:=Option.bind_eq_some_iff.mp H
 obtain ⟨t388,A20,H⟩:=H
 try dsimp only at H
 have A2:=Aside0.mk A20
 clear A20
 by_cases c3:t388=true
 ·subst c3
  rw [if_pos rfl] at H
  obtain rfl:=Option.some.inj H
  go_enter Try.func8,Try.ntmps8
  go_wp2_with (first|((with_reducible refine gate_callee (f:=45) rfl ?_);refine goesL_ (some 16) rfl rfl Try.func45 (by kernel_rfl) rfl #[.slice A0 l0.length c0] rfl (by (try simp only [List.map_toArray,List.map_cons,List.map_nil]);first|done|rfl|(simp only [List.length_drop,List.length_take];rfl)) ?_;(with_reducible refine (laws_big.calls _ _ l0 true _ ?side1 ?side2 A2.out).mono ?_);(case side1=>exact sC HR0);(case side2=>exact HC0.out);rintro e w' ⟨rfl,⟨nd,rfl⟩⟩;refine ⟨_,rfl,?_⟩))
  go_ret
  exact ⟨rz,by first|exact below_step HBz_.out be|exact be⟩
 ·replace c3:=Bool.eq_false_iff.mpr c3
  subst c3
  replace H:=(if_neg (show ¬ (false=true) by decide)).symm.trans H
  replace H:=Option.bind_eq_some_iff.mp H
  obtain ⟨⟨t389,t390,t393,t396⟩,A40,H⟩:=H
  try dsimp only at H
  have A4:=Aside0.mk A40
  clear A40
  replace H:=Option.bind_eq_some_iff.mp H
  obtain ⟨t401,A50,H⟩:=H
  try dsimp only at H
  have A5:=Aside0.mk A50
  clear A50
  have HC6:=Aside0.mk H
  clear H
  go_enter Try.func8,Try.ntmps8
  go_upto_region 5 with (first|((with_reducible refine gate_callee (f:=45) rfl ?_);refine goesL_ (some 16) rfl rfl Try.func45 (by kernel_rfl) rfl #[.slice A0 l0.length c0] rfl (by (try simp only [List.map_toArray,List.map_cons,List.map_nil]);first|done|rfl|(simp only [List.length_drop,List.length_take];rfl)) ?_;(with_reducible refine (laws_big.calls _ _ l0 false _ ?side1 ?side2 A2.out).mono ?_);(case side1=>exact sC HR0);(case side2=>exact HC0.out);rintro e w' ⟨rfl,⟨nd,rfl⟩⟩;refine ⟨_,rfl,?_⟩)|((with_reducible refine gate_callee (f:=46) rfl ?_);refine goesL_ (some 19) rfl rfl Try.func46 (by kernel_rfl) rfl #[.slice A0 l0.length c0] rfl (by (try simp only [List.map_toArray,List.map_cons,List.map_nil]);first|done|rfl|(simp only [List.length_drop,List.length_take];rfl)) ?_;(with_reducible refine (spec_DrawBest.calls k _ _ l0 t389 t390 t393 t396 _ ?side1 ?side2 A4.out).mono ?_);(case side1=>exact sC HR0);(case side2=>exact HC0.out);rintro e w ⟨v390,v393,v396,rfl,ho0,ho1,ho2,hb⟩;refine ⟨_,rfl,?_⟩;obtain ⟨A390,c390,e390⟩:=Kd.S_slice ho0;subst e390;have HR390:=Aside0.mk (Kd.S_reads' ho0).2.2;have HC390:=Aside0.mk (Kd.S_reads' ho0).2.1;clear ho0;obtain ⟨A393,c393,e393⟩:=Kd.R_slice ho1;subst e393;have HR393:=Aside0.mk (Kd.R_reads' ho1).2.2;have HC393:=Aside0.mk (Kd.R_reads' ho1).2.1;clear ho1;obtain ⟨A396,c396,e396⟩:=Kd.R_slice ho2;subst e396;have HR396:=Aside0.mk (Kd.R_reads' ho2).2.2;have HC396:=Aside0.mk (Kd.R_reads' ho2).2.1;clear ho2;have HBz_:=bs hb;clear HB hb;have HB:=Aside0.mk (Below.refl w.heap.size w))|((with_reducible refine gate_dst (N:=3) rfl ?_);refine box_event ?hg (N:=3) ?hd (cs:=#[.int .i64 0,.slice none 0 0]) (t:=43) ?hr ?_;(case hd=>rfl);(case hg=>rfl);(case hr=>first|(go_simp;done)|(go_simp;rfl));intro gb399 hg w8 hbox hb;have n0_:=bs hb;have n1_:=Aside0.mk (hbox);have n2_:=Aside0.mk ((by rw [hg];exact (below_size be):w.heap.size≤gb399));have n3_:=Aside0.mk ((by rw [hg];exact (below_size be):w.heap.size≤gb399));clear HB;have HB:=n0_;have BK399:=n1_;have GW399:=n2_;have GE399:=n3_;clear n0_ n1_ n2_ n3_;clear hb hbox hg)|((with_reducible refine gate_dst (N:=4) rfl ?_);refine box_event ?hg (N:=4) ?hd (cs:=#[.slice none 0 0]) (t:=29) ?hr ?_;(case hd=>rfl);(case hg=>rfl);(case hr=>first|(go_simp;done)|(go_simp;rfl));intro gb400 hg w9 hbox hb;have n0_:=Aside0.mk (blk_below (g:=gb399) (o:=.cells #[.int .i64 0,.slice none 0 0] 43 (0,0)) (bk BK399) hb);have n1_:=bs hb;have n2_:=Aside0.mk (hbox);have n3_:=Aside0.mk ((by rw [hg];exact (below_size be):w.heap.size≤gb400));have n4_:=Aside0.mk ((by rw [hg];exact (below_size be):w.heap.size≤gb400));have n5_:=Aside0.mk ((by rw [hg];exact Nat.ne_of_lt (blk_lt (g:=gb399) (o:=.cells #[.int .i64 0,.slice none 0 0] 43 (0,0)) (bk BK399)):gb399 ≠ gb400));have n6_:=Aside0.mk ((by rw [hg];exact Nat.ne_of_gt (blk_lt (g:=gb399) (o:=.cells #[.int .i64 0,.slice none 0 0] 43 (0,0)) (bk BK399)):gb400 ≠ gb399));clear BK399;clear HB;have BK399:=n0_;have HB:=n1_;have BK400:=n2_;have GW400:=n3_;have GE400:=n4_;have NB399_400:=n5_;have NB400_399:=n6_;clear n0_ n1_ n2_ n3_ n4_ n5_ n6_;clear hb hbox hg;have hnb10:=NB399_400.out;have hnc10:=NB400_399.out;have hcz11_0:w9.cell? ⟨gb399,0,none⟩=some (.int .i64 0):=(blk_cell BK399.out 0).trans rfl;have hcz11_1:w9.cell? ⟨gb399,1,none⟩=some (.slice none 0 0):=(blk_cell BK399.out 1).trans rfl;have hfz11_0:=blk_frozen BK399.out 0;have hfz11_1:=blk_frozen BK399.out 1;have hcz12_0:w9.cell? ⟨gb400,0,none⟩=some (.slice none 0 0):=(blk_cell BK400.out 0).trans rfl;have hfz12_0:=blk_frozen BK400.out 0)|((with_reducible refine gate_callee (f:=47) rfl ?_);refine goesL_ (some 26) rfl rfl Try.func47 (by kernel_rfl) rfl #[.agg #[.int .i64 t389,.slice A390 t390.length c390],.agg #[.slice A393 t393.length c393],.slice A396 t396.length c396] rfl (by (try simp only [List.map_toArray,List.map_cons,List.map_nil]);first|done|rfl|(simp only [List.length_drop,List.length_take];rfl)) ?_;(with_reducible refine (impl_Best.calls k t389 _ _ t390 _ _ t393 _ _ t396 t401 _ ?side1 ?side2 ?side3 ?side4 ?side5 ?side6 A5.out).mono ?_);(case side1=>exact Kd.C_below HR390.out be);(case side2=>exact HC390.out);(case side3=>exact Kd.C_below HR393.out be);(case side4=>exact HC393.out);(case side5=>exact Kd.C_below HR396.out be);(case side6=>exact HC396.out);rintro e w13 ⟨rfl,hb⟩;refine ⟨_,rfl,?_⟩;have n0_:=Aside0.mk (blk_below (g:=gb399) (o:=.cells #[.int .i64 t389,.slice A390 t390.length c390] 43 (0,0)) (by (with_reducible repeat (first|refine blk_drewN ?_ _|refine blk_drew ?_|refine blk_alloc ?_ _));refine blk_far ?_ NB399_400.out _;(with_reducible repeat (first|refine blk_drewN ?_ _|refine blk_drew ?_|refine blk_alloc ?_ _));refine blk_put (cs:=#[.int .i64 t389,.slice none 0 0]) ?_ 1 _ rfl;(with_reducible repeat (first|refine blk_drewN ?_ _|refine blk_drew ?_|refine blk_alloc ?_ _));refine blk_put (cs:=#[.int .i64 0,.slice none 0 0]) ?_ 0 _ rfl;(with_reducible repeat (first|refine blk_drewN ?_ _|refine blk_drew ?_|refine blk_alloc ?_ _));exact BK399.out) hb);have n1_:=Aside0.mk (blk_below (g:=gb400) (o:=.cells #[.slice A393 t393.length c393] 29 (0,0)) (by (with_reducible repeat (first|refine blk_drewN ?_ _|refine blk_drew ?_|refine blk_alloc ?_ _));refine blk_put (cs:=#[.slice none 0 0]) ?_ 0 _ rfl;(with_reducible repeat (first|refine blk_drewN ?_ _|refine blk_drew ?_|refine blk_alloc ?_ _));refine blk_far ?_ NB400_399.out _;(with_reducible repeat (first|refine blk_drewN ?_ _|refine blk_drew ?_|refine blk_alloc ?_ _));refine blk_far ?_ NB400_399.out _;(with_reducible repeat (first|refine blk_drewN ?_ _|refine blk_drew ?_|refine blk_alloc ?_ _));exact BK400.out) hb);have n2_:=bs hb;clear BK399;clear BK400;clear HB;have BK399:=n0_;have BK400:=n1_;have HB:=n2_;clear n0_ n1_ n2_;(try clear hb);(try clear hb2);(try clear hk);(try clear hi)))
  (try simp only [Act.put,List.setIfInBounds_toArray,List.set_cons_zero,List.set_cons_succ])
  go_cut [37] (fun v37 wc=>∃ (kq:Nat) (x37_5:Bool),v37 = .bool x37_5∧Aside0 (laws_FnBest.j0 kq t396 t401 x37_5 t389 t390 t393=some r)∧Aside0 (kq≤k)∧Aside0 (wc.heap[gb399]?=some (.cells #[.int .i64 t389,(.slice A390 t390.length c390)] 43 (0,0)))∧Aside0 (wc.heap[gb400]?=some (.cells #[(.slice A393 t393.length c393)] 29 (0,0)))∧Aside0 (Below w.heap.size w wc))
  case first=>
   have H:=HC6.out
   clear HC6
   replace H:=Option.bind_eq_some_iff.mp H
   obtain ⟨t402,A140,H⟩:=H
   try dsimp only at H
   have A14:=Aside0.mk A140
   clear A140
   by_cases c15:t401=t402
   ·rw [if_pos c15] at H
    have c15b0:(t401 == t402)=true:=beq_iff_eq.mpr c15
    have c15b1:(t401 != t402)=false:=bne_eq_false_iff_eq.mpr c15
    clear c15
    (first|rw [c15b0]|(simp only [i64_w,i32_w];rw [c15b0])|skip)
    replace H:=Option.bind_eq_some_iff.mp H
    obtain ⟨t403,A160,H⟩:=H
    try dsimp only at H
    have A16:=Aside0.mk A160
    clear A160
    have H':=Aside0.mk H
    clear H
    have hnb17:=NB399_400.out
    have hnc17:=NB400_399.out
    have hcz18_0:w13.cell? ⟨gb399,0,none⟩=some (.int .i64 t389):=(blk_cell BK399.out 0).trans rfl
    have hcz18_1:w13.cell? ⟨gb399,1,none⟩=some (.slice A390 t390.length c390):=(blk_cell BK399.out 1).trans rfl
    have hfz18_0:=blk_frozen BK399.out 0
    have hfz18_1:=blk_frozen BK399.out 1
    have hcz19_0:w13.cell? ⟨gb400,0,none⟩=some (.slice A393 t393.length c393):=(blk_cell BK400.out 0).trans rfl
    have hfz19_0:=blk_frozen BK400.out 0
    go_wp2_with (first|((with_reducible refine gate_callee (f:=48) rfl ?_);refine goesL_ (some 31) rfl rfl Try.func48 (by kernel_rfl) rfl #[.agg #[.int .i64 t389,.slice A390 t390.length c390],.agg #[.slice A393 t393.length c393],.slice A396 t396.length c396] rfl (by (try simp only [List.map_toArray,List.map_cons,List.map_nil]);first|done|rfl|(simp only [List.length_drop,List.length_take];rfl)) ?_;(with_reducible refine (spec_Best.calls k t389 _ _ t390 _ _ t393 _ _ t396 t402 _ ?side1 ?side2 ?side3 ?side4 ?side5 ?side6 A14.out).mono ?_);(case side1=>exact rC HR390);(case side2=>exact HC390.out);(case side3=>exact rC HR393);(case side4=>exact HC393.out);(case side5=>exact rC HR396);(case side6=>exact HC396.out);rintro e w20 ⟨rfl,hb⟩;refine ⟨_,rfl,?_⟩;have n0_:=Aside0.mk (blk_below (g:=gb399) (o:=.cells #[.int .i64 t389,.slice A390 t390.length c390] 43 (0,0)) (bk BK399) hb);have n1_:=Aside0.mk (blk_below (g:=gb400) (o:=.cells #[.slice A393 t393.length c393] 29 (0,0)) (bk BK400) hb);have n2_:=bs hb;clear BK399;clear BK400;clear HB;have BK399:=n0_;have BK400:=n1_;have HB:=n2_;clear n0_ n1_ n2_;(try clear hb);(try clear hb2);(try clear hk);(try clear hi))|(go_at_call 49;(with_reducible refine (spec_DevsOk.calls k _ _ t396 t403 _ ?side1 ?side2 A16.out).mono ?_);(case side1=>exact rC HR396);(case side2=>exact HC396.out);rintro e w21 ⟨rfl,hb⟩;have n0_:=Aside0.mk (blk_below (g:=gb399) (o:=.cells #[.int .i64 t389,.slice A390 t390.length c390] 43 (0,0)) (bk BK399) hb);have n1_:=Aside0.mk (blk_below (g:=gb400) (o:=.cells #[.slice A393 t393.length c393] 29 (0,0)) (bk BK400) hb);have n2_:=bs hb;clear BK399;clear BK400;clear HB;have BK399:=n0_;have BK400:=n1_;have HB:=n2_;clear n0_ n1_ n2_;(try clear hb);(try clear hb2);(try clear hk);(try clear hi)))
    go_meet
    case rel=>exact ⟨_,(!t403),rd_,H',⟨by first|omega|exact Nat.le_refl _⟩,⟨bk BK399⟩,⟨bk BK400⟩,⟨be⟩⟩
   ·rw [if_neg c15] at H
    have c15b0:(t401 == t402)=false:=beq_eq_false_iff_ne.mpr c15
    have c15b1:(t401 != t402)=true:=bne_iff_ne.mpr c15
    (first|rw [c15b0]|(simp only [i64_w,i32_w];rw [c15b0])|skip)
    have H':=Aside0.mk H
    clear H
    have hnb22:=NB399_400.out
    have hnc22:=NB400_399.out
    have hcz23_0:w13.cell? ⟨gb399,0,none⟩=some (.int .i64 t389):=(blk_cell BK399.out 0).trans rfl
    have hcz23_1:w13.cell? ⟨gb399,1,none⟩=some (.slice A390 t390.length c390):=(blk_cell BK399.out 1).trans rfl
    have hfz23_0:=blk_frozen BK399.out 0
    have hfz23_1:=blk_frozen BK399.out 1
    have hcz24_0:w13.cell? ⟨gb400,0,none⟩=some (.slice A393 t393.length c393):=(blk_cell BK400.out 0).trans rfl
    have hfz24_0:=blk_frozen BK400.out 0
    go_wp2_with (first|((with_reducible refine gate_callee (f:=48) rfl ?_);refine goesL_ (some 31) rfl rfl Try.func48 (by kernel_rfl) rfl #[.agg #[.int .i64 t389,.slice A390 t390.length c390],.agg #[.slice A393 t393.length c393],.slice A396 t396.length c396] rfl (by (try simp only [List.map_toArray,List.map_cons,List.map_nil]);first|done|rfl|(simp only [List.length_drop,List.length_take];rfl)) ?_;(with_reducible refine (spec_Best.calls k t389 _ _ t390 _ _ t393 _ _ t396 t402 _ ?side1 ?side2 ?side3 ?side4 ?side5 ?side6 A14.out).mono ?_);(case side1=>exact rC HR390);(case side2=>exact HC390.out);(case side3=>exact rC HR393);(case side4=>exact HC393.out);(case side5=>exact rC HR396);(case side6=>exact HC396.out);rintro e w25 ⟨rfl,hb⟩;refine ⟨_,rfl,?_⟩;have n0_:=Aside0.mk (blk_below (g:=gb399) (o:=.cells #[.int .i64 t389,.slice A390 t390.length c390] 43 (0,0)) (bk BK399) hb);have n1_:=Aside0.mk (blk_below (g:=gb400) (o:=.cells #[.slice A393 t393.length c393] 29 (0,0)) (bk BK400) hb);have n2_:=bs hb;clear BK399;clear BK400;clear HB;have BK399:=n0_;have BK400:=n1_;have HB:=n2_;clear n0_ n1_ n2_;(try clear hb);(try clear hb2);(try clear hk);(try clear hi)))
    go_meet
    case rel=>exact ⟨_,(true),rd_,H',⟨by first|omega|exact Nat.le_refl _⟩,⟨bk BK399⟩,⟨bk BK400⟩,⟨be⟩⟩
  case rest=>
   clear HC6
   try clear c1
   try clear c2
   try clear p2
   try clear c3
   try clear c4
   try clear c8
   try clear c10
   try clear c15
   try clear c15b0
   try clear c15b1
   try clear c17
   try clear c22
   try clear hcz11_0
   try clear hcz11_1
   try clear hcz12_0
   try clear hcz18_0
   try clear hcz18_1
   try clear hcz19_0
   try clear hcz23_0
   try clear hcz23_1
   try clear hcz24_0
   try clear hfz11_0
   try clear hfz11_1
   try clear hfz12_0
   try clear hfz18_0
   try clear hfz18_1
   try clear hfz19_0
   try clear hfz23_0
   try clear hfz23_1
   try clear hfz24_0
   obtain ⟨kq,x37_5,rfl,HA,HJ5,BK399,BK400,HB⟩:=hcut
   cases kq with
   | zero=>exact absurd HA.out (by simp [laws_FnBest.j0])
   | succ kj5=>
    have H:=HA.out
    clear HA
    simp only [laws_FnBest.j0] at H
    by_cases c26:x37_5=true
    ·subst c26
     rw [if_pos rfl] at H
     replace H:=Option.bind_eq_some_iff.mp H
     obtain ⟨t404,A270,H⟩:=H
     try dsimp only at H
     have A27:=Aside0.mk A270
     clear A270
     obtain rfl:=Option.some.inj H
     have hnb28:=NB399_400.out
     have hnc28:=NB400_399.out
     have hcz29_0:wc.cell? ⟨gb399,0,none⟩=some (.int .i64 t389):=(blk_cell BK399.out 0).trans rfl
     have hcz29_1:wc.cell? ⟨gb399,1,none⟩=some (.slice A390 t390.length c390):=(blk_cell BK399.out 1).trans rfl
     have hfz29_0:=blk_frozen BK399.out 0
     have hfz29_1:=blk_frozen BK399.out 1
     have hcz30_0:wc.cell? ⟨gb400,0,none⟩=some (.slice A393 t393.length c393):=(blk_cell BK400.out 0).trans rfl
     have hfz30_0:=blk_frozen BK400.out 0
     go_wp2_with (first|((with_reducible refine gate_callee (f:=48) rfl ?_);refine goesL_ (some 42) rfl rfl Try.func48 (by kernel_rfl) rfl #[.agg #[.int .i64 t389,.slice A390 t390.length c390],.agg #[.slice A393 t393.length c393],.slice A396 t396.length c396] rfl (by (try simp only [List.map_toArray,List.map_cons,List.map_nil]);first|done|rfl|(simp only [List.length_drop,List.length_take];rfl)) ?_;(with_reducible refine (spec_Best.calls kj5 t389 _ _ t390 _ _ t393 _ _ t396 t404 _ ?side1 ?side2 ?side3 ?side4 ?side5 ?side6 A27.out).mono ?_);(case side1=>exact rC HR390);(case side2=>exact HC390.out);(case side3=>exact rC HR393);(case side4=>exact HC393.out);(case side5=>exact rC HR396);(case side6=>exact HC396.out);rintro e w31 ⟨rfl,hb⟩;refine ⟨_,rfl,?_⟩;have n0_:=Aside0.mk (blk_below (g:=gb399) (o:=.cells #[.int .i64 t389,.slice A390 t390.length c390] 43 (0,0)) (bk BK399) hb);have n1_:=Aside0.mk (blk_below (g:=gb400) (o:=.cells #[.slice A393 t393.length c393] 29 (0,0)) (bk BK400) hb);have n2_:=bs hb;clear BK399;clear BK400;clear HB;have BK399:=n0_;have BK400:=n1_;have HB:=n2_;clear n0_ n1_ n2_;(try clear hb);(try clear hb2);(try clear hk);(try clear hi)))
     go_ret
     exact ⟨rz,by first|exact below_step HBz_.out be|exact be⟩
    ·replace c26:=Bool.eq_false_iff.mpr c26
     subst c26
     replace H:=(if_neg (show ¬ (false=true) by decide)).symm.trans H
     replace H:=Option.bind_eq_some_iff.mp H
     obtain ⟨⟨t405,t406,t407,t408⟩,A320,H⟩:=H
     try dsimp only at H
     have A32:=Aside0.mk A320
     clear A320
     by_cases c33:t401=(-1)
     ·rw [if_pos c33] at H
      have c33b0:(t401 == (-1))=true:=beq_iff_eq.mpr c33
      have c33b1:(t401 != (-1))=false:=bne_eq_false_iff_eq.mpr c33
      clear c33
      have H':=Aside0.mk H
      clear H
      go_wp2_with (first|((with_reducible refine gate_callee (f:=50) rfl ?_);refine goesL_ (some 47) rfl rfl Try.func50 (by kernel_rfl) rfl #[.slice A396 t396.length c396,.int .i64 t401] rfl (by (try simp only [List.map_toArray,List.map_cons,List.map_nil]);first|done|rfl|(simp only [List.length_drop,List.length_take];rfl)) ?_;(with_reducible refine (impl_DevAt.calls kj5 _ _ t396 t401 t405 t406 t407 t408 _ ?side1 ?side2 A32.out).mono ?_);(case side1=>exact rC HR396);(case side2=>exact HC396.out);rintro e w34 ⟨rfl,hb⟩;refine ⟨_,rfl,?_⟩;have n0_:=Aside0.mk (blk_below (g:=gb399) (o:=.cells #[.int .i64 t389,.slice A390 t390.length c390] 43 (0,0)) (bk BK399) hb);have n1_:=Aside0.mk (blk_below (g:=gb400) (o:=.cells #[.slice A393 t393.length c393] 29 (0,0)) (bk BK400) hb);have n2_:=bs hb;clear BK399;clear BK400;clear HB;have BK399:=n0_;have BK400:=n1_;have HB:=n2_;clear n0_ n1_ n2_;(try clear hb);(try clear hb2);(try clear hk);(try clear hi))|((with_reducible refine gate_dst (N:=7) rfl ?_);refine box_event ?hg (N:=7) ?hd (cs:=#[.int .i64 0,.int .i64 0,.int .i64 0]) (t:=76) ?hr ?_;(case hd=>rfl);(case hg=>rfl);(case hr=>first|(go_simp;done)|(go_simp;rfl));intro gb409 hg w35 hbox hb;have n0_:=Aside0.mk (blk_below (g:=gb399) (o:=.cells #[.int .i64 t389,.slice A390 t390.length c390] 43 (0,0)) (bk BK399) hb);have n1_:=Aside0.mk (blk_below (g:=gb400) (o:=.cells #[.slice A393 t393.length c393] 29 (0,0)) (bk BK400) hb);have n2_:=bs hb;have n3_:=Aside0.mk (hbox);have n4_:=Aside0.mk ((by rw [hg];exact (below_size be):w.heap.size≤gb409));have n5_:=Aside0.mk ((by rw [hg];exact (below_size be):w.heap.size≤gb409));have n6_:=Aside0.mk ((by rw [hg];exact Nat.ne_of_lt (blk_lt (g:=gb399) (o:=.cells #[.int .i64 t389,.slice A390 t390.length c390] 43 (0,0)) (bk BK399)):gb399 ≠ gb409));have n7_:=Aside0.mk ((by rw [hg];exact Nat.ne_of_gt (blk_lt (g:=gb399) (o:=.cells #[.int .i64 t389,.slice A390 t390.length c390] 43 (0,0)) (bk BK399)):gb409 ≠ gb399));have n8_:=Aside0.mk ((by rw [hg];exact Nat.ne_of_lt (blk_lt (g:=gb400) (o:=.cells #[.slice A393 t393.length c393] 29 (0,0)) (bk BK400)):gb400 ≠ gb409));have n9_:=Aside0.mk ((by rw [hg];exact Nat.ne_of_gt (blk_lt (g:=gb400) (o:=.cells #[.slice A393 t393.length c393] 29 (0,0)) (bk BK400)):gb409 ≠ gb400));clear BK399;clear BK400;clear HB;have BK399:=n0_;have BK400:=n1_;have HB:=n2_;have BK409:=n3_;have GW409:=n4_;have GE409:=n5_;have NB399_409:=n6_;have NB409_399:=n7_;have NB400_409:=n8_;have NB409_400:=n9_;clear n0_ n1_ n2_ n3_ n4_ n5_ n6_ n7_ n8_ n9_;clear hb hbox hg;have hnb36:=NB409_399.out;have hnc36:=NB399_409.out;have hnb37:=NB409_400.out;have hnc37:=NB400_409.out;have hcz38_0:w35.cell? ⟨gb409,0,none⟩=some (.int .i64 0):=(blk_cell BK409.out 0).trans rfl;have hcz38_1:w35.cell? ⟨gb409,1,none⟩=some (.int .i64 0):=(blk_cell BK409.out 1).trans rfl;have hcz38_2:w35.cell? ⟨gb409,2,none⟩=some (.int .i64 0):=(blk_cell BK409.out 2).trans rfl;have hfz38_0:=blk_frozen BK409.out 0;have hfz38_1:=blk_frozen BK409.out 1;have hfz38_2:=blk_frozen BK409.out 2))
      go_loopg [9] kj5 (fun kq v9 w'=>∃ (x9_2:Int),v9 = .int .i64 x9_2∧Aside0 (laws_FnBest.l0 kq t396 x9_2 t393=some r)∧Aside0 (kq≤kj5)∧Aside0 (w'.heap[gb399]?=some (.cells #[.int .i64 t389,(.slice A390 t390.length c390)] 43 (0,0)))∧Aside0 (w'.heap[gb400]?=some (.cells #[(.slice A393 t393.length c393)] 29 (0,0)))∧Aside0 (w'.heap[gb409]?=some (.cells #[.int .i64 t405,.int .i64 t406,.int .i64 t407] 76 (0,0)))∧Aside0 (Below w.heap.size w w'))
      case atStart=>exact ⟨(0),rd_,H',⟨Nat.le_refl _⟩,⟨by (with_reducible repeat (first|refine blk_drewN ?_ _|refine blk_drew ?_|refine blk_alloc ?_ _));refine blk_far ?_ NB399_409.out _;(with_reducible repeat (first|refine blk_drewN ?_ _|refine blk_drew ?_|refine blk_alloc ?_ _));refine blk_far ?_ NB399_409.out _;(with_reducible repeat (first|refine blk_drewN ?_ _|refine blk_drew ?_|refine blk_alloc ?_ _));refine blk_far ?_ NB399_409.out _;(with_reducible repeat (first|refine blk_drewN ?_ _|refine blk_drew ?_|refine blk_alloc ?_ _));exact BK399.out⟩,⟨by (with_reducible repeat (first|refine blk_drewN ?_ _|refine blk_drew ?_|refine blk_alloc ?_ _));refine blk_far ?_ NB400_409.out _;(with_reducible repeat (first|refine blk_drewN ?_ _|refine blk_drew ?_|refine blk_alloc ?_ _));refine blk_far ?_ NB400_409.out _;(with_reducible repeat (first|refine blk_drewN ?_ _|refine blk_drew ?_|refine blk_alloc ?_ _));refine blk_far ?_ NB400_409.out _;(with_reducible repeat (first|refine blk_drewN ?_ _|refine blk_drew ?_|refine blk_alloc ?_ _));exact BK400.out⟩,⟨by (with_reducible repeat (first|refine blk_drewN ?_ _|refine blk_drew ?_|refine blk_alloc ?_ _));refine blk_put (cs:=#[.int .i64 t405,.int .i64 t406,.int .i64 0]) ?_ 2 _ rfl;(with_reducible repeat (first|refine blk_drewN ?_ _|refine blk_drew ?_|refine blk_alloc ?_ _));refine blk_put (cs:=#[.int .i64 t405,.int .i64 0,.int .i64 0]) ?_ 1 _ rfl;(with_reducible repeat (first|refine blk_drewN ?_ _|refine blk_drew ?_|refine blk_alloc ?_ _));refine blk_put (cs:=#[.int .i64 0,.int .i64 0,.int .i64 0]) ?_ 0 _ rfl;(with_reducible repeat (first|refine blk_drewN ?_ _|refine blk_drew ?_|refine blk_alloc ?_ _));exact BK409.out⟩,⟨be⟩⟩
      case round=>
       clear H'
       try clear c1
       try clear c2
       try clear p2
       try clear c3
       try clear c4
       try clear c5
       try clear c8
       try clear c10
       try clear c15
       try clear c15b0
       try clear c15b1
       try clear c17
       try clear c22
       try clear c26
       try clear c28
       try clear c33
       try clear c33b0
       try clear c33b1
       try clear c36
       try clear c37
       try clear hcz11_0
       try clear hcz11_1
       try clear hcz12_0
       try clear hcz18_0
       try clear hcz18_1
       try clear hcz19_0
       try clear hcz23_0
       try clear hcz23_1
       try clear hcz24_0
       try clear hcz29_0
       try clear hcz29_1
       try clear hcz30_0
       try clear hcz38_0
       try clear hcz38_1
       try clear hcz38_2
       try clear hfz11_0
       try clear hfz11_1
       try clear hfz12_0
       try clear hfz18_0
       try clear hfz18_1
       try clear hfz19_0
       try clear hfz23_0
       try clear hfz23_1
       try clear hfz24_0
       try clear hfz29_0
       try clear hfz29_1
       try clear hfz30_0
       try clear hfz38_0
       try clear hfz38_1
       try clear hfz38_2
       try clear p2
       obtain ⟨x9_2,rfl,HA,HK2,BK399,BK400,BK409,HB⟩:=hrel
       cases gk with
       | zero=>exact absurd HA.out (by simp [laws_FnBest.l0])
       | succ k2=>
        have H:=HA.out
        clear HA
        simp only [laws_FnBest.l0] at H
        by_cases c39:x9_2 < (t396.length:Int)
        ·rw [if_pos c39] at H
         have c39b0:decide (x9_2 < (t396.length:Int))=true:=decide_eq_true c39
         clear c39
         by_cases c40:0≤x9_2
         ·rw [if_pos c40] at H
          have c40b0:decide (0≤x9_2)=true:=decide_eq_true c40
          clear c40
          replace H:=Option.bind_eq_some_iff.mp H
          obtain ⟨t411,A410,H⟩:=H
          try dsimp only at H
          have A41:=Aside0.mk A410
          clear A410
          by_cases c42:t411=true
          ·subst c42
           rw [if_pos rfl] at H
           have H':=Aside0.mk H
           clear H
           try go_wp2
           have n0_:=Aside0.mk (blk_drew BK399.out);have n1_:=Aside0.mk (blk_drew BK400.out);have n2_:=Aside0.mk (blk_drew BK409.out);have n3_:=Aside0.mk (below_drew1 HB.out);clear BK399 BK400 BK409 HB;have BK399:=n0_;have BK400:=n1_;have BK409:=n2_;have HB:=n3_;clear n0_ n1_ n2_ n3_
           have p410:0≤(x9_2:Int):=of_decide_eq_true (by first|(with_reducible assumption)|assumption)
           have q410:x9_2 < (t396.length:Int):=of_decide_eq_true (by first|(with_reducible assumption)|assumption)
           obtain ⟨ad410,e410,hx410_0,hx410_1,hx410_2⟩:=at_T76 HR396.out x9_2 p410 q410
           have hw410_2:=hx410_2;have hw410_1:=hx410_1;have hw410_0:=hx410_0
           cases e410
           replace hx410_0:=(HB.out.cell (World.block_lt_of_cell? w _ hx410_0)).trans hx410_0
           replace hx410_1:=(HB.out.cell (World.block_lt_of_cell? w _ hx410_1)).trans hx410_1
           replace hx410_2:=(HB.out.cell (World.block_lt_of_cell? w _ hx410_2)).trans hx410_2
           replace p410:=eq_true p410
           replace q410:=eq_true q410
           refine start_ (n:=9) (S:=fun w'=>w'.cell? ⟨gb400,0,none⟩=some (.slice A393 t393.length c393)∧w'.cell? (ad410.add ((x9_2).toNat * 3))=some (.int .i64 ((rd_T76 t396 x9_2).f0))∧w'.cell? ⟨(ad410.add ((x9_2).toNat * 3)).block,(ad410.add ((x9_2).toNat * 3)).off+1,none⟩=some (.int .i64 ((rd_T76 t396 x9_2).f1))∧w'.cell? ⟨(ad410.add ((x9_2).toNat * 3)).block,(ad410.add ((x9_2).toNat * 3)).off+2,none⟩=some (.int .i64 ((rd_T76 t396 x9_2).f2))) (ds:=[]) (fl 9 0) (by kernel_rfl) rfl rfl ⟨(blk_cell BK400.out 0).trans rfl,((HB.out.cell (World.block_lt_of_cell? w _ hw410_0)).trans hw410_0),((HB.out.cell (World.block_lt_of_cell? w _ hw410_1)).trans hw410_1),((HB.out.cell (World.block_lt_of_cell? w _ hw410_2)).trans hw410_2)⟩ (fun hHeld=>?_);refine with_tabW laws_FnBest.tab12 laws_FnBest.bits12 (fun HT_ HW_=>?_)
           generalize wr.drew=w43 at BK399 BK400 BK409 HB hx410_0 hx410_1 hx410_2 hHeld ⊢
           refine pt 0 58 (fl 9 1) HT_ ?_
           refine pt 2 60 (fl 9 5) HT_ ?_
           refine pt 3 61 (fl 9 13) HT_ ?_
           refine pt 4 62 (fl 9 29) HT_ ?_
           refine pt 5 63 (fl 9 61) HT_ ?_
           refine tt 1 59 (fl 9 63) HT_ HW_ hHeld ?_
           refine tt 6 64 (fl 9 127) HT_ HW_ hHeld ?_
           refine ot 7 (some 65) (fl 9 255) HT_ (fun K hK=>?_)
           refine goes_ Try.func51 (by kernel_rfl) rfl #[.slice A393 t393.length c393,.int .i64 ((rd_T76 t396 x9_2).f0)] (by rfl) rfl rfl (by (try simp only [List.map_toArray,List.map_cons,List.map_nil]);first|done|rfl|(simp only [List.length_drop,List.length_take];rfl)) ?_
           with_reducible refine (laws_has.calls k2 _ _ t393 ((rd_T76 t396 x9_2).f0) true _ ?side1 ?side2 A41.out).mono ?_
           (case side1=>exact rC HR393)
           (case side2=>exact HC393.out)
           rintro e w' ⟨rfl,⟨nd,rfl⟩⟩
           refine ⟨_,rfl,?_⟩
           refine hK.out _ _ ⟨(blk_cell BK400.out 0).trans rfl,((HB.out.cell (World.block_lt_of_cell? w _ hw410_0)).trans hw410_0),((HB.out.cell (World.block_lt_of_cell? w _ hw410_1)).trans hw410_1),((HB.out.cell (World.block_lt_of_cell? w _ hw410_2)).trans hw410_2)⟩ (fun hHeld=>?_)
           clear hK K
           refine no 65 ?_
           refine pt 8 66 (fl 9 511) HT_ ?_
           refine done_ (done_of HT_.out (by kernel_rfl)) ?_
           try go_wp2
           go_roundg k2
           case measure=>have:=HJ5.out;have:=HK2.out;omega
           case rel=>exact ⟨(wrap64 (x9_2+1)),rd_,H',⟨by have:=HJ5.out;have:=HK2.out;omega⟩,⟨bk BK399⟩,⟨bk BK400⟩,⟨bk BK409⟩,⟨be⟩⟩
          ·replace c42:=Bool.eq_false_iff.mpr c42
           subst c42
           replace H:=(if_neg (show ¬ (false=true) by decide)).symm.trans H
           exact absurd ((Option.some.inj H).trans hr_.out) (by decide)
         ·rw [if_neg c40] at H
          exact absurd H (by simp)
        ·rw [if_neg c39] at H
         have c39b0:decide (x9_2 < (t396.length:Int))=false:=decide_eq_false c39
         clear c39
         obtain rfl:=Option.some.inj H
         go_wp2
         go_ret
         exact ⟨rz,by first|exact below_step HBz_.out be|exact be⟩
     ·rw [if_neg c33] at H
      have c33b0:(t401 == (-1))=false:=beq_eq_false_iff_ne.mpr c33
      have c33b1:(t401 != (-1))=true:=bne_iff_ne.mpr c33
      obtain ⟨y412,hy412⟩ : ∃ y_:List Int,y_=(([]:List Int)):=⟨_,rfl⟩
      replace H:(if y412.length+t393.length < 17592186044416 then ((some (y412 ++ t393:List Int)).bind fun y415=>((some (([t401]:List Int):List Int)).bind fun y418=>(if y415.length+y418.length < 17592186044416 then ((some (y415 ++ y418:List Int)).bind fun y421=>(if t408=true then ((laws_has.f kj5 t393 t401).bind fun t425=>(laws_FnBest.j2 kj5 t396 t401 t425 t389 t390 t393 t405 t406 t407 y421)) else (laws_FnBest.j2 kj5 t396 t401 true t389 t390 t393 t405 t406 t407 y421))) else (none)))) else (none))=some r:=by first|(rw [hy412];with_reducible exact H)|(have H2_:=(Option.bind_some _ _).symm.trans H;rw [hy412];with_reducible exact H2_)|(have H2_:=(Option.bind_some _ _).symm.trans H;with_reducible exact H2_)|with_reducible exact H|(rw [hy412];exact H)|exact H
      have Ny412:=Aside0.mk hy412
      clear hy412
      by_cases c44:y412.length+t393.length < 17592186044416
      ·rw [if_pos c44] at H
       have LMc44:=Aside0.mk c44
       clear c44
       obtain ⟨y415,hy415⟩ : ∃ y_:List Int,y_=(y412 ++ t393):=⟨_,rfl⟩
       replace H:((some (([t401]:List Int):List Int)).bind fun y418=>(if y415.length+y418.length < 17592186044416 then ((some (y415 ++ y418:List Int)).bind fun y421=>(if t408=true then ((laws_has.f kj5 t393 t401).bind fun t425=>(laws_FnBest.j2 kj5 t396 t401 t425 t389 t390 t393 t405 t406 t407 y421)) else (laws_FnBest.j2 kj5 t396 t401 true t389 t390 t393 t405 t406 t407 y421))) else (none)))=some r:=by first|(rw [hy415];with_reducible exact H)|(have H2_:=(Option.bind_some _ _).symm.trans H;rw [hy415];with_reducible exact H2_)|(have H2_:=(Option.bind_some _ _).symm.trans H;with_reducible exact H2_)|with_reducible exact H|(rw [hy415];exact H)|exact H
       have Ny415:=Aside0.mk hy415
       clear hy415
       obtain ⟨y418,hy418⟩ : ∃ y_:List Int,y_=(([t401]:List Int)):=⟨_,rfl⟩
       replace H:(if y415.length+y418.length < 17592186044416 then ((some (y415 ++ y418:List Int)).bind fun y421=>(if t408=true then ((laws_has.f kj5 t393 t401).bind fun t425=>(laws_FnBest.j2 kj5 t396 t401 t425 t389 t390 t393 t405 t406 t407 y421)) else (laws_FnBest.j2 kj5 t396 t401 true t389 t390 t393 t405 t406 t407 y421))) else (none))=some r:=by first|(rw [hy418];with_reducible exact H)|(have H2_:=(Option.bind_some _ _).symm.trans H;rw [hy418];with_reducible exact H2_)|(have H2_:=(Option.bind_some _ _).symm.trans H;with_reducible exact H2_)|with_reducible exact H|(rw [hy418];exact H)|exact H
       have Ny418:=Aside0.mk hy418
       clear hy418
       by_cases c45:y415.length+y418.length < 17592186044416
       ·rw [if_pos c45] at H
        have LMc45:=Aside0.mk c45
        clear c45
        obtain ⟨y421,hy421⟩ : ∃ y_:List Int,y_=(y415 ++ y418):=⟨_,rfl⟩
        replace H:(if t408=true then ((laws_has.f kj5 t393 t401).bind fun t425=>(laws_FnBest.j2 kj5 t396 t401 t425 t389 t390 t393 t405 t406 t407 y421)) else (laws_FnBest.j2 kj5 t396 t401 true t389 t390 t393 t405 t406 t407 y421))=some r:=by first|(rw [hy421];with_reducible exact H)|(have H2_:=(Option.bind_some _ _).symm.trans H;rw [hy421];with_reducible exact H2_)|(have H2_:=(Option.bind_some _ _).symm.trans H;with_reducible exact H2_)|with_reducible exact H|(rw [hy421];exact H)|exact H
        have Ny421:=Aside0.mk hy421
        clear hy421
        have HC46:=Aside0.mk H
        clear H
        go_upto_region 16 with (first|((with_reducible refine gate_callee (f:=50) rfl ?_);refine goesL_ (some 47) rfl rfl Try.func50 (by kernel_rfl) rfl #[.slice A396 t396.length c396,.int .i64 t401] rfl (by (try simp only [List.map_toArray,List.map_cons,List.map_nil]);first|done|rfl|(simp only [List.length_drop,List.length_take];rfl)) ?_;(with_reducible refine (impl_DevAt.calls kj5 _ _ t396 t401 t405 t406 t407 t408 _ ?side1 ?side2 A32.out).mono ?_);(case side1=>exact rC HR396);(case side2=>exact HC396.out);rintro e w47 ⟨rfl,hb⟩;refine ⟨_,rfl,?_⟩;have n0_:=Aside0.mk (blk_below (g:=gb399) (o:=.cells #[.int .i64 t389,.slice A390 t390.length c390] 43 (0,0)) (bk BK399) hb);have n1_:=Aside0.mk (blk_below (g:=gb400) (o:=.cells #[.slice A393 t393.length c393] 29 (0,0)) (bk BK400) hb);have n2_:=bs hb;clear BK399;clear BK400;clear HB;have BK399:=n0_;have BK400:=n1_;have HB:=n2_;clear n0_ n1_ n2_;(try clear hb);(try clear hb2);(try clear hk);(try clear hi))|((with_reducible refine gate_dst (N:=7) rfl ?_);refine box_event ?hg (N:=7) ?hd (cs:=#[.int .i64 0,.int .i64 0,.int .i64 0]) (t:=76) ?hr ?_;(case hd=>rfl);(case hg=>rfl);(case hr=>first|(go_simp;done)|(go_simp;rfl));intro gb409 hg w48 hbox hb;have n0_:=Aside0.mk (blk_below (g:=gb399) (o:=.cells #[.int .i64 t389,.slice A390 t390.length c390] 43 (0,0)) (bk BK399) hb);have n1_:=Aside0.mk (blk_below (g:=gb400) (o:=.cells #[.slice A393 t393.length c393] 29 (0,0)) (bk BK400) hb);have n2_:=bs hb;have n3_:=Aside0.mk (hbox);have n4_:=Aside0.mk ((by rw [hg];exact (below_size be):w.heap.size≤gb409));have n5_:=Aside0.mk ((by rw [hg];exact (below_size be):w.heap.size≤gb409));have n6_:=Aside0.mk ((by rw [hg];exact Nat.ne_of_lt (blk_lt (g:=gb399) (o:=.cells #[.int .i64 t389,.slice A390 t390.length c390] 43 (0,0)) (bk BK399)):gb399 ≠ gb409));have n7_:=Aside0.mk ((by rw [hg];exact Nat.ne_of_gt (blk_lt (g:=gb399) (o:=.cells #[.int .i64 t389,.slice A390 t390.length c390] 43 (0,0)) (bk BK399)):gb409 ≠ gb399));have n8_:=Aside0.mk ((by rw [hg];exact Nat.ne_of_lt (blk_lt (g:=gb400) (o:=.cells #[.slice A393 t393.length c393] 29 (0,0)) (bk BK400)):gb400 ≠ gb409));have n9_:=Aside0.mk ((by rw [hg];exact Nat.ne_of_gt (blk_lt (g:=gb400) (o:=.cells #[.slice A393 t393.length c393] 29 (0,0)) (bk BK400)):gb409 ≠ gb400));clear BK399;clear BK400;clear HB;have BK399:=n0_;have BK400:=n1_;have HB:=n2_;have BK409:=n3_;have GW409:=n4_;have GE409:=n5_;have NB399_409:=n6_;have NB409_399:=n7_;have NB400_409:=n8_;have NB409_400:=n9_;clear n0_ n1_ n2_ n3_ n4_ n5_ n6_ n7_ n8_ n9_;clear hb hbox hg;have hnb49:=NB409_399.out;have hnc49:=NB399_409.out;have hnb50:=NB409_400.out;have hnc50:=NB400_409.out;have hcz51_0:w48.cell? ⟨gb409,0,none⟩=some (.int .i64 0):=(blk_cell BK409.out 0).trans rfl;have hcz51_1:w48.cell? ⟨gb409,1,none⟩=some (.int .i64 0):=(blk_cell BK409.out 1).trans rfl;have hcz51_2:w48.cell? ⟨gb409,2,none⟩=some (.int .i64 0):=(blk_cell BK409.out 2).trans rfl;have hfz51_0:=blk_frozen BK409.out 0;have hfz51_1:=blk_frozen BK409.out 1;have hfz51_2:=blk_frozen BK409.out 2)|((with_reducible refine gate_dst (N:=67) rfl ?_);refine Kd.R_lit (Kd.int .i64) _ 3 ?hg (N:=67) ?hd (xs:=([]:List Int)) (inner:=[]) (ok:=fun _=>True) (okp:=fun _=>True) ?hr ?hp (fun _ hk=>hk) trivial (Below.refl _ _) (Nat.le_refl _) (by simp) ?_;(case hd=>rfl);(case hg=>rfl);(case hr=>first|(go_simp;done)|(go_simp;rfl));(case hp=>exact (Reps.none _ _));intro v413 w52 ho53 hb hg_ hnew_;clear hg_ hnew_;(first|rw [← Ny412.out] at ho53|(simp only [Int.reduceToNat] at ho53;rw [← Ny412.out] at ho53));have n0_:=Aside0.mk (Kd.R_lower ho53 (below_size be));have n1_:=Aside0.mk (blk_below (g:=gb399) (o:=.cells #[.int .i64 t389,.slice A390 t390.length c390] 43 (0,0)) (by (with_reducible repeat (first|refine blk_drewN ?_ _|refine blk_drew ?_|refine blk_alloc ?_ _));refine blk_far ?_ NB399_409.out _;(with_reducible repeat (first|refine blk_drewN ?_ _|refine blk_drew ?_|refine blk_alloc ?_ _));refine blk_far ?_ NB399_409.out _;(with_reducible repeat (first|refine blk_drewN ?_ _|refine blk_drew ?_|refine blk_alloc ?_ _));refine blk_far ?_ NB399_409.out _;(with_reducible repeat (first|refine blk_drewN ?_ _|refine blk_drew ?_|refine blk_alloc ?_ _));exact BK399.out) hb);have n2_:=Aside0.mk (blk_below (g:=gb400) (o:=.cells #[.slice A393 t393.length c393] 29 (0,0)) (by (with_reducible repeat (first|refine blk_drewN ?_ _|refine blk_drew ?_|refine blk_alloc ?_ _));refine blk_far ?_ NB400_409.out _;(with_reducible repeat (first|refine blk_drewN ?_ _|refine blk_drew ?_|refine blk_alloc ?_ _));refine blk_far ?_ NB400_409.out _;(with_reducible repeat (first|refine blk_drewN ?_ _|refine blk_drew ?_|refine blk_alloc ?_ _));refine blk_far ?_ NB400_409.out _;(with_reducible repeat (first|refine blk_drewN ?_ _|refine blk_drew ?_|refine blk_alloc ?_ _));exact BK400.out) hb);have n3_:=Aside0.mk (blk_below (g:=gb409) (o:=.cells #[.int .i64 t405,.int .i64 t406,.int .i64 t407] 76 (0,0)) (by (with_reducible repeat (first|refine blk_drewN ?_ _|refine blk_drew ?_|refine blk_alloc ?_ _));refine blk_put (cs:=#[.int .i64 t405,.int .i64 t406,.int .i64 0]) ?_ 2 _ rfl;(with_reducible repeat (first|refine blk_drewN ?_ _|refine blk_drew ?_|refine blk_alloc ?_ _));refine blk_put (cs:=#[.int .i64 t405,.int .i64 0,.int .i64 0]) ?_ 1 _ rfl;(with_reducible repeat (first|refine blk_drewN ?_ _|refine blk_drew ?_|refine blk_alloc ?_ _));refine blk_put (cs:=#[.int .i64 0,.int .i64 0,.int .i64 0]) ?_ 0 _ rfl;(with_reducible repeat (first|refine blk_drewN ?_ _|refine blk_drew ?_|refine blk_alloc ?_ _));exact BK409.out) hb);have n4_:=bs hb;clear BK399;clear BK400;clear BK409;clear HB;have HO414:=n0_;have BK399:=n1_;have BK400:=n2_;have BK409:=n3_;have HB:=n4_;clear n0_ n1_ n2_ n3_ n4_;clear hb ho53;have hnb54:=NB400_399.out;have hnc54:=NB399_400.out;have hcz55_0:w52.cell? ⟨gb400,0,none⟩=some (.slice A393 t393.length c393):=(blk_cell BK400.out 0).trans rfl;have hfz55_0:=blk_frozen BK400.out 0)|((with_reducible refine gate_builtin (b:=.append) (xs:=#[.tmp 67,.tmp 69]) rfl ?_);at_builtin;refine Kd.R_append_rows (Kd.int .i64) (w0:=w) w.heap.size rfl (.tmp 67) (.tmp 69) 22 3 (.int .i64 0) 8 rfl Try.underlying22 info3 rfl (by decide) (by omega) v413 y412 t393 _ _ _ (fun _=>True) (fun _=>False) rfl rfl ?aO ?aR (fun _ _ h=>h) (fun _ h=>h.elim) ?aF ?aB ?aS ?aL ?_;(case aR=>exact rC HR393);(case aB=>exact be);(case aF=>exact (fun _ _=>trivial));(case aO=>exact (rR HO414));(case aS=>exact (below_size be));(case aL=>have:=LMc44.out;omega);intro v416 w56 ho hb hg hat;rw [← Ny415.out] at ho;have n0_:=Aside0.mk (blk_grown (g:=gb399) (o:=.cells #[.int .i64 t389,.slice A390 t390.length c390] 43 (0,0)) (bk BK399) hg (Kd.R_ne HO414.out BK399.out (by decide)));have n1_:=Aside0.mk (blk_grown (g:=gb400) (o:=.cells #[.slice A393 t393.length c393] 29 (0,0)) (bk BK400) hg (Kd.R_ne HO414.out BK400.out (by decide)));have n2_:=Aside0.mk (blk_grown (g:=gb409) (o:=.cells #[.int .i64 t405,.int .i64 t406,.int .i64 t407] 76 (0,0)) (bk BK409) hg (Kd.R_ne HO414.out BK409.out (by decide)));have n3_:=Aside0.mk (hb);have n4_:=Aside0.mk (ho);clear BK399;clear BK400;clear BK409;clear HB;clear HO414;have BK399:=n0_;have BK400:=n1_;have BK409:=n2_;have HB:=n3_;have HO417:=n4_;clear n0_ n1_ n2_ n3_ n4_;clear ho hb hg hat)|((with_reducible refine gate_dst (N:=72) rfl ?_);refine Kd.R_lit (Kd.int .i64) _ 3 ?hg (N:=72) ?hd (xs:=([t401]:List Int)) (inner:=[.int .i64 t401]) (ok:=fun _=>True) (okp:=fun _=>True) ?hr ?hp (fun _ hk=>hk) trivial (Below.refl _ _) (Nat.le_refl _) (by simp) ?_;(case hd=>rfl);(case hg=>rfl);(case hr=>first|(go_simp;done)|(go_simp;rfl));(case hp=>exact (Reps.one (show Kd.M (Kd.int .i64) _ _ _ t401 [.int .i64 t401] from rfl) (Reps.none _ _)));intro v419 w57 ho58 hb hg_ hnew_;clear hg_ hnew_;(first|rw [← Ny418.out] at ho58|(simp only [Int.reduceToNat] at ho58;rw [← Ny418.out] at ho58));have n0_:=Aside0.mk (Kd.R_elder' (rR HO417) (Kd.R_base ho58) hb);have n1_:=Aside0.mk (Kd.R_lower (Kd.R_new' ho58 (Kd.R_lt (rR HO417))) (below_size be));have n2_:=Aside0.mk (blk_below (g:=gb399) (o:=.cells #[.int .i64 t389,.slice A390 t390.length c390] 43 (0,0)) (bk BK399) hb);have n3_:=Aside0.mk (blk_below (g:=gb400) (o:=.cells #[.slice A393 t393.length c393] 29 (0,0)) (bk BK400) hb);have n4_:=Aside0.mk (blk_below (g:=gb409) (o:=.cells #[.int .i64 t405,.int .i64 t406,.int .i64 t407] 76 (0,0)) (bk BK409) hb);have n5_:=bs hb;clear HO417;clear BK399;clear BK400;clear BK409;clear HB;have HO417:=n0_;have HO420:=n1_;have BK399:=n2_;have BK400:=n3_;have BK409:=n4_;have HB:=n5_;clear n0_ n1_ n2_ n3_ n4_ n5_;clear hb ho58;obtain ⟨Ao60,co60,eo60⟩:=Kd.R_slice HO420.out;subst eo60)|((with_reducible refine gate_builtin (b:=.append) (xs:=#[.tmp 70,.tmp 72]) rfl ?_);at_builtin;refine Kd.R_append_rows (Kd.int .i64) (w0:=w) w.heap.size rfl (.tmp 70) (.tmp 72) 22 3 (.int .i64 0) 8 rfl Try.underlying22 info3 rfl (by decide) (by omega) v416 y415 y418 _ _ _ (fun k_=>some k_ ≠ (.slice Ao60 y418.length co60:Value).ownBlock) (fun _=>False) rfl rfl ?aO ?aR (fun _ _ h=>h) (fun _ h=>h.elim) ?aF ?aB ?aS ?aL ?_;(case aR=>exact sR HO420);(case aB=>exact be);(case aF=>exact (fun k_ hk=>Kd.fresh' (Kd.R_lt (rR HO420)) k_ hk));(case aO=>exact (by (with_reducible repeat (first|apply Kd.R_alloc|apply Kd.R_drewN|apply Kd.R_drew));exact Kd.R_mono HO417.out (fun _ hk=>hk.2)));(case aS=>exact (below_size be));(case aL=>have:=LMc45.out;omega);intro v422 w59 ho hb hg hat;rw [← Ny421.out] at ho;have n0_:=Aside0.mk (blk_grown (g:=gb399) (o:=.cells #[.int .i64 t389,.slice A390 t390.length c390] 43 (0,0)) (bk BK399) hg (Kd.R_ne HO417.out BK399.out (by decide)));have n1_:=Aside0.mk (blk_grown (g:=gb400) (o:=.cells #[.slice A393 t393.length c393] 29 (0,0)) (bk BK400) hg (Kd.R_ne HO417.out BK400.out (by decide)));have n2_:=Aside0.mk (blk_grown (g:=gb409) (o:=.cells #[.int .i64 t405,.int .i64 t406,.int .i64 t407] 76 (0,0)) (bk BK409) hg (Kd.R_ne HO417.out BK409.out (by decide)));have n3_:=Aside0.mk (Kd.R_after (ok:=(fun _=>True)) (rR HO420) hg hat);have n4_:=Aside0.mk (hb);have n5_:=Aside0.mk (ho);clear BK399;clear BK400;clear BK409;clear HO420;clear HB;clear HO417;have BK399:=n0_;have BK400:=n1_;have BK409:=n2_;have HO420:=n3_;have HB:=n4_;have HO423:=n5_;clear n0_ n1_ n2_ n3_ n4_ n5_;clear ho hb hg hat;obtain ⟨Ao61,co61,eo61⟩:=Kd.R_slice HO423.out;subst eo61)|((with_reducible refine gate_dst (N:=10) rfl ?_);refine box_event ?hg (N:=10) ?hd (cs:=#[.slice none 0 0]) (t:=29) ?hr ?_;(case hd=>rfl);(case hg=>rfl);(case hr=>first|(go_simp;done)|(go_simp;rfl));intro gb424 hg w62 hbox hb;have n0_:=Aside0.mk (Kd.R_below (rR HO420) hb);have n1_:=Aside0.mk (Kd.R_below (rR HO423) hb);have n2_:=Aside0.mk (blk_below (g:=gb399) (o:=.cells #[.int .i64 t389,.slice A390 t390.length c390] 43 (0,0)) (bk BK399) hb);have n3_:=Aside0.mk (blk_below (g:=gb400) (o:=.cells #[.slice A393 t393.length c393] 29 (0,0)) (bk BK400) hb);have n4_:=Aside0.mk (blk_below (g:=gb409) (o:=.cells #[.int .i64 t405,.int .i64 t406,.int .i64 t407] 76 (0,0)) (bk BK409) hb);have n5_:=bs hb;have n6_:=Aside0.mk (hbox);have n7_:=Aside0.mk ((by rw [hg];exact (below_size be):w.heap.size≤gb424));have n8_:=Aside0.mk ((by rw [hg];exact (below_size be):w.heap.size≤gb424));have n9_:=Aside0.mk ((by rw [hg];exact Nat.ne_of_lt (blk_lt (g:=gb399) (o:=.cells #[.int .i64 t389,.slice A390 t390.length c390] 43 (0,0)) (bk BK399)):gb399 ≠ gb424));have n10_:=Aside0.mk ((by rw [hg];exact Nat.ne_of_gt (blk_lt (g:=gb399) (o:=.cells #[.int .i64 t389,.slice A390 t390.length c390] 43 (0,0)) (bk BK399)):gb424 ≠ gb399));have n11_:=Aside0.mk ((by rw [hg];exact Nat.ne_of_lt (blk_lt (g:=gb400) (o:=.cells #[.slice A393 t393.length c393] 29 (0,0)) (bk BK400)):gb400 ≠ gb424));have n12_:=Aside0.mk ((by rw [hg];exact Nat.ne_of_gt (blk_lt (g:=gb400) (o:=.cells #[.slice A393 t393.length c393] 29 (0,0)) (bk BK400)):gb424 ≠ gb400));have n13_:=Aside0.mk ((by rw [hg];exact Nat.ne_of_lt (blk_lt (g:=gb409) (o:=.cells #[.int .i64 t405,.int .i64 t406,.int .i64 t407] 76 (0,0)) (bk BK409)):gb409 ≠ gb424));have n14_:=Aside0.mk ((by rw [hg];exact Nat.ne_of_gt (blk_lt (g:=gb409) (o:=.cells #[.int .i64 t405,.int .i64 t406,.int .i64 t407] 76 (0,0)) (bk BK409)):gb424 ≠ gb409));clear HO420;clear HO423;clear BK399;clear BK400;clear BK409;clear HB;have HO420:=n0_;have HO423:=n1_;have BK399:=n2_;have BK400:=n3_;have BK409:=n4_;have HB:=n5_;have BK424:=n6_;have GW424:=n7_;have GE424:=n8_;have NB399_424:=n9_;have NB424_399:=n10_;have NB400_424:=n11_;have NB424_400:=n12_;have NB409_424:=n13_;have NB424_409:=n14_;clear n0_ n1_ n2_ n3_ n4_ n5_ n6_ n7_ n8_ n9_ n10_ n11_ n12_ n13_ n14_;clear hb hbox hg;have hnb63:=NB424_399.out;have hnc63:=NB399_424.out;have hnb64:=NB424_400.out;have hnc64:=NB400_424.out;have hnb65:=NB424_409.out;have hnc65:=NB409_424.out;have hcz66_0:w62.cell? ⟨gb424,0,none⟩=some (.slice none 0 0):=(blk_cell BK424.out 0).trans rfl;have hfz66_0:=blk_frozen BK424.out 0))
        (try simp only [Act.put,List.setIfInBounds_toArray,List.set_cons_zero,List.set_cons_succ])
        go_cut [82] (fun v82 wc=>∃ (kq:Nat) (x82_45:Bool),v82 = .bool x82_45∧Aside0 (laws_FnBest.j2 kq t396 t401 x82_45 t389 t390 t393 t405 t406 t407 y421=some r)∧Aside0 (kq≤kj5)∧Aside0 (Kd.R (Kd.int .i64) 3 wc w.heap.size (fun _=>True) (.slice Ao61 y421.length co61) y421)∧Aside0 (wc.heap[gb399]?=some (.cells #[.int .i64 t389,(.slice A390 t390.length c390)] 43 (0,0)))∧Aside0 (wc.heap[gb400]?=some (.cells #[(.slice A393 t393.length c393)] 29 (0,0)))∧Aside0 (wc.heap[gb409]?=some (.cells #[.int .i64 t405,.int .i64 t406,.int .i64 t407] 76 (0,0)))∧Aside0 (wc.heap[gb424]?=some (.cells #[(.slice Ao61 y421.length co61)] 29 (0,0)))∧Aside0 (Below w.heap.size w wc))
        case first=>
         have H:=HC46.out
         clear HC46
         by_cases c67:t408=true
         ·subst c67
          rw [if_pos rfl] at H
          replace H:=Option.bind_eq_some_iff.mp H
          obtain ⟨t425,A680,H⟩:=H
          try dsimp only at H
          have A68:=Aside0.mk A680
          clear A680
          have H':=Aside0.mk H
          clear H
          have hnb69:=NB400_399.out
          have hnc69:=NB399_400.out
          have hnb70:=NB400_409.out
          have hnc70:=NB409_400.out
          have hnb71:=NB400_424.out
          have hnc71:=NB424_400.out
          have hcz72_0:w62.cell? ⟨gb400,0,none⟩=some (.slice A393 t393.length c393):=(blk_cell BK400.out 0).trans rfl
          have hfz72_0:=blk_frozen BK400.out 0
          go_wp2_with (first|(go_at_call 51;(with_reducible refine (laws_has.calls kj5 _ _ t393 t401 t425 _ ?side1 ?side2 A68.out).mono ?_);(case side1=>exact Kd.C_below HR393.out be);(case side2=>exact HC393.out);rintro e w' ⟨rfl,⟨nd,rfl⟩⟩))
          go_meet
          case rel=>exact ⟨_,(t425),rd_,H',⟨by have:=HJ5.out;first|omega|exact Nat.le_refl _⟩,⟨by (with_reducible repeat (first|apply Kd.R_alloc|apply Kd.R_drewN|apply Kd.R_drew));exact Kd.R_mono (Kd.R_far (p:=⟨gb424,0,none⟩) (Kd.R_types HO423.out BK424.out (by decide)) (fun _ hk=>hk.2) (.slice Ao61 y421.length co61)) (fun _ hk=>trivial)⟩,⟨by (with_reducible repeat (first|refine blk_drewN ?_ _|refine blk_drew ?_|refine blk_alloc ?_ _));refine blk_far ?_ NB399_424.out _;(with_reducible repeat (first|refine blk_drewN ?_ _|refine blk_drew ?_|refine blk_alloc ?_ _));exact BK399.out⟩,⟨by (with_reducible repeat (first|refine blk_drewN ?_ _|refine blk_drew ?_|refine blk_alloc ?_ _));refine blk_far ?_ NB400_424.out _;(with_reducible repeat (first|refine blk_drewN ?_ _|refine blk_drew ?_|refine blk_alloc ?_ _));exact BK400.out⟩,⟨by (with_reducible repeat (first|refine blk_drewN ?_ _|refine blk_drew ?_|refine blk_alloc ?_ _));refine blk_far ?_ NB409_424.out _;(with_reducible repeat (first|refine blk_drewN ?_ _|refine blk_drew ?_|refine blk_alloc ?_ _));exact BK409.out⟩,⟨by (with_reducible repeat (first|refine blk_drewN ?_ _|refine blk_drew ?_|refine blk_alloc ?_ _));refine blk_put (cs:=#[.slice none 0 0]) ?_ 0 _ rfl;(with_reducible repeat (first|refine blk_drewN ?_ _|refine blk_drew ?_|refine blk_alloc ?_ _));exact BK424.out⟩,⟨be⟩⟩
         ·replace c67:=Bool.eq_false_iff.mpr c67
          subst c67
          replace H:=(if_neg (show ¬ (false=true) by decide)).symm.trans H
          have H':=Aside0.mk H
          clear H
          go_wp2
          go_meet
          case rel=>exact ⟨_,(true),rd_,H',⟨by have:=HJ5.out;first|omega|exact Nat.le_refl _⟩,⟨by (with_reducible repeat (first|apply Kd.R_alloc|apply Kd.R_drewN|apply Kd.R_drew));exact Kd.R_mono (Kd.R_far (p:=⟨gb424,0,none⟩) (Kd.R_types HO423.out BK424.out (by decide)) (fun _ hk=>hk.2) (.slice Ao61 y421.length co61)) (fun _ hk=>trivial)⟩,⟨by (with_reducible repeat (first|refine blk_drewN ?_ _|refine blk_drew ?_|refine blk_alloc ?_ _));refine blk_far ?_ NB399_424.out _;(with_reducible repeat (first|refine blk_drewN ?_ _|refine blk_drew ?_|refine blk_alloc ?_ _));exact BK399.out⟩,⟨by (with_reducible repeat (first|refine blk_drewN ?_ _|refine blk_drew ?_|refine blk_alloc ?_ _));refine blk_far ?_ NB400_424.out _;(with_reducible repeat (first|refine blk_drewN ?_ _|refine blk_drew ?_|refine blk_alloc ?_ _));exact BK400.out⟩,⟨by (with_reducible repeat (first|refine blk_drewN ?_ _|refine blk_drew ?_|refine blk_alloc ?_ _));refine blk_far ?_ NB409_424.out _;(with_reducible repeat (first|refine blk_drewN ?_ _|refine blk_drew ?_|refine blk_alloc ?_ _));exact BK409.out⟩,⟨by (with_reducible repeat (first|refine blk_drewN ?_ _|refine blk_drew ?_|refine blk_alloc ?_ _));refine blk_put (cs:=#[.slice none 0 0]) ?_ 0 _ rfl;(with_reducible repeat (first|refine blk_drewN ?_ _|refine blk_drew ?_|refine blk_alloc ?_ _));exact BK424.out⟩,⟨be⟩⟩
        case rest=>
         clear HC46
         try clear c1
         try clear c2
         try clear p2
         try clear c3
         try clear c4
         try clear p4
         try clear q4
         try clear hx4
         try clear c5
         try clear c6
         try clear p6
         try clear c7
         try clear c8
         try clear c10
         try clear c15
         try clear c15b0
         try clear c15b1
         try clear c17
         try clear c22
         try clear c26
         try clear c28
         try clear c33
         try clear c33b0
         try clear c33b1
         try clear c36
         try clear c37
         try clear c39
         try clear c39b0
         try clear c40
         try clear c40b0
         try clear p41
         try clear q41
         try clear hx41
         try clear c42
         try clear c44
         try clear c45
         try clear c46
         try clear c47
         try clear c48
         try clear c49
         try clear c50
         try clear c51
         try clear c54
         try clear c63
         try clear c64
         try clear p64
         try clear c65
         try clear c67
         try clear c69
         try clear c70
         try clear c71
         try clear hcz11_0
         try clear hcz11_1
         try clear hcz12_0
         try clear hcz18_0
         try clear hcz18_1
         try clear hcz19_0
         try clear hcz23_0
         try clear hcz23_1
         try clear hcz24_0
         try clear hcz29_0
         try clear hcz29_1
         try clear hcz30_0
         try clear hcz38_0
         try clear hcz38_1
         try clear hcz38_2
         try clear hcz51_0
         try clear hcz51_1
         try clear hcz51_2
         try clear hcz55_0
         try clear hcz66_0
         try clear hcz72_0
         try clear hfz11_0
         try clear hfz11_1
         try clear hfz12_0
         try clear hfz18_0
         try clear hfz18_1
         try clear hfz19_0
         try clear hfz23_0
         try clear hfz23_1
         try clear hfz24_0
         try clear hfz29_0
         try clear hfz29_1
         try clear hfz30_0
         try clear hfz38_0
         try clear hfz38_1
         try clear hfz38_2
         try clear hfz51_0
         try clear hfz51_1
         try clear hfz51_2
         try clear hfz55_0
         try clear hfz66_0
         try clear hfz72_0
         try clear hx410_0
         try clear hx410_1
         try clear hx410_2
         try clear p2
         try clear p410
         try clear q410
         obtain ⟨kq,x82_45,rfl,HA,HJ45,HO_425000,BK399,BK400,BK409,BK424,HB⟩:=hcut
         cases kq with
         | zero=>exact absurd HA.out (by simp [laws_FnBest.j2])
         | succ kj45=>
          have H:=HA.out
          clear HA
          simp only [laws_FnBest.j2] at H
          by_cases c73:x82_45=true
          ·subst c73
           rw [if_pos rfl] at H
           exact absurd ((Option.some.inj H).trans hr_.out) (by decide)
          ·replace c73:=Bool.eq_false_iff.mpr c73
           subst c73
           replace H:=(if_neg (show ¬ (false=true) by decide)).symm.trans H
           replace H:=Option.bind_eq_some_iff.mp H
           obtain ⟨t426,A740,H⟩:=H
           try dsimp only at H
           have A74:=Aside0.mk A740
           clear A740
           replace H:=Option.bind_eq_some_iff.mp H
           obtain ⟨t427,A750,H⟩:=H
           try dsimp only at H
           have A75:=Aside0.mk A750
           clear A750
           have H':=Aside0.mk H
           clear H
           try go_wp2
           have n0_:=Aside0.mk (Kd.R_drew HO_425000.out);have n1_:=Aside0.mk (blk_drew BK399.out);have n2_:=Aside0.mk (blk_drew BK400.out);have n3_:=Aside0.mk (blk_drew BK409.out);have n4_:=Aside0.mk (blk_drew BK424.out);have n5_:=Aside0.mk (below_drew1 HB.out);clear HO_425000 BK399 BK400 BK409 BK424 HB;have HO_425000:=n0_;have BK399:=n1_;have BK400:=n2_;have BK409:=n3_;have BK424:=n4_;have HB:=n5_;clear n0_ n1_ n2_ n3_ n4_ n5_
           refine start_ (n:=8) (S:=fun w'=>w'.cell? ⟨gb424,0,none⟩=some (.slice Ao61 y421.length co61)∧w'.cell? ⟨gb400,0,none⟩=some (.slice A393 t393.length c393)) (ds:=[]) (fl 8 0) (by kernel_rfl) rfl rfl ⟨(blk_cell BK424.out 0).trans rfl,(blk_cell BK400.out 0).trans rfl⟩ (fun hHeld=>?_);refine with_tabW laws_FnBest.tab18 laws_FnBest.bits18 (fun HT_ HW_=>?_)
           generalize wc.drew=w76 at HO_425000 BK399 BK400 BK409 BK424 HB hHeld ⊢
           refine pt 1 84 (fl 8 2) HT_ ?_
           refine pt 4 87 (fl 8 18) HT_ ?_
           refine tt 0 83 (fl 8 19) HT_ HW_ hHeld ?_
           refine tt 3 86 (fl 8 27) HT_ HW_ hHeld ?_
           refine ot 2 (some 85) (fl 8 31) HT_ (fun K hK=>?_)
           refine goes_ Try.func20 (by kernel_rfl) rfl #[.agg #[.slice Ao61 y421.length co61],.slice A396 t396.length c396] (by rfl) rfl rfl (by (try simp only [List.map_toArray,List.map_cons,List.map_nil]);first|done|rfl|(simp only [List.length_drop,List.length_take];rfl)) ?_
           with_reducible refine (impl_SpreadOf.calls kj45 _ _ y421 _ _ t396 t426 _ ?side1 ?side2 ?side3 ?side4 A74.out).mono ?_
           (case side1=>exact sR HO_425000)
           (case side2=>exact (Kd.R_reads' HO_425000.out).2.1)
           (case side3=>exact rC HR396)
           (case side4=>exact HC396.out)
           rintro e w77 ⟨rfl,hb⟩
           refine ⟨_,rfl,?_⟩
           have n0_:=Aside0.mk (Kd.R_below ((rR HO_425000)) hb);have n1_:=Aside0.mk (blk_below (bk BK399) hb);have n2_:=Aside0.mk (blk_below (bk BK400) hb);have n3_:=Aside0.mk (blk_below (bk BK409) hb);have n4_:=Aside0.mk (blk_below (bk BK424) hb);have n5_:=bs hb;clear HO_425000 BK399 BK400 BK409 BK424 HB;have HO_425000:=n0_;have BK399:=n1_;have BK400:=n2_;have BK409:=n3_;have BK424:=n4_;have HB:=n5_;clear n0_ n1_ n2_ n3_ n4_ n5_;(try clear hb);(try clear hb2);(try clear hk);(try clear hi)
           refine hK.out _ _ ⟨(blk_cell BK424.out 0).trans rfl,(blk_cell BK400.out 0).trans rfl⟩ (fun hHeld=>?_)
           clear hK K
           refine no 85 ?_
           refine ot 5 (some 88) (fl 8 63) HT_ (fun K hK=>?_)
           refine goes_ Try.func20 (by kernel_rfl) rfl #[.agg #[.slice A393 t393.length c393],.slice A396 t396.length c396] (by rfl) rfl rfl (by (try simp only [List.map_toArray,List.map_cons,List.map_nil]);first|done|rfl|(simp only [List.length_drop,List.length_take];rfl)) ?_
           with_reducible refine (impl_SpreadOf.calls kj45 _ _ t393 _ _ t396 t427 _ ?side1 ?side2 ?side3 ?side4 A75.out).mono ?_
           (case side1=>exact rC HR393)
           (case side2=>exact HC393.out)
           (case side3=>exact rC HR396)
           (case side4=>exact HC396.out)
           rintro e w78 ⟨rfl,hb⟩
           refine ⟨_,rfl,?_⟩
           have n0_:=Aside0.mk (Kd.R_below ((rR HO_425000)) hb);have n1_:=Aside0.mk (blk_below (bk BK399) hb);have n2_:=Aside0.mk (blk_below (bk BK400) hb);have n3_:=Aside0.mk (blk_below (bk BK409) hb);have n4_:=Aside0.mk (blk_below (bk BK424) hb);have n5_:=bs hb;clear HO_425000 BK399 BK400 BK409 BK424 HB;have HO_425000:=n0_;have BK399:=n1_;have BK400:=n2_;have BK409:=n3_;have BK424:=n4_;have HB:=n5_;clear n0_ n1_ n2_ n3_ n4_ n5_;(try clear hb);(try clear hb2);(try clear hk);(try clear hi)
           refine hK.out _ _ ⟨(blk_cell BK424.out 0).trans rfl,(blk_cell BK400.out 0).trans rfl⟩ (fun hHeld=>?_)
           clear hK K
           refine no 88 ?_
           refine pt 6 89 (fl 8 127) HT_ ?_
           refine pt 7 11 (fl 8 255) HT_ ?_
           refine done_ (done_of HT_.out (by kernel_rfl)) ?_
           try go_wp2
           generalize decide (t427 < t426)=fr_ at H' ⊢
           go_loopg [12] kj45 (fun kq v12 w'=>∃ (x12_3:Int),v12 = .int .i64 x12_3∧Aside0 (laws_FnBest.l1 kq t396 t401 fr_ x12_3 t389 t390 t393 t405 t406 t407=some r)∧Aside0 (kq≤kj45)∧Aside0 (Kd.R (Kd.int .i64) 3 w' w.heap.size (fun _=>True) (.slice Ao61 y421.length co61) y421)∧Aside0 (w'.heap[gb399]?=some (.cells #[.int .i64 t389,(.slice A390 t390.length c390)] 43 (0,0)))∧Aside0 (w'.heap[gb400]?=some (.cells #[(.slice A393 t393.length c393)] 29 (0,0)))∧Aside0 (w'.heap[gb409]?=some (.cells #[.int .i64 t405,.int .i64 t406,.int .i64 t407] 76 (0,0)))∧Aside0 (w'.heap[gb424]?=some (.cells #[(.slice Ao61 y421.length co61)] 29 (0,0)))∧Aside0 (Below w.heap.size w w'))
           case atStart=>exact ⟨(0),rd_,H',⟨Nat.le_refl _⟩,⟨rR HO_425000⟩,⟨bk BK399⟩,⟨bk BK400⟩,⟨bk BK409⟩,⟨bk BK424⟩,⟨be⟩⟩
           case round=>
            clear H'
            try clear c1
            try clear c2
            try clear p2
            try clear c3
            try clear c4
            try clear p4
            try clear q4
            try clear hx4
            try clear c5
            try clear c6
            try clear p6
            try clear c7
            try clear c8
            try clear c10
            try clear c15
            try clear c15b0
            try clear c15b1
            try clear c17
            try clear c20
            try clear c22
            try clear c26
            try clear c28
            try clear c33
            try clear c33b0
            try clear c33b1
            try clear c36
            try clear c37
            try clear c39
            try clear c39b0
            try clear c40
            try clear c40b0
            try clear p41
            try clear q41
            try clear hx41
            try clear c42
            try clear c44
            try clear c45
            try clear c46
            try clear c47
            try clear c48
            try clear c49
            try clear c50
            try clear c51
            try clear c54
            try clear c63
            try clear c64
            try clear p64
            try clear c65
            try clear c67
            try clear c69
            try clear c70
            try clear c71
            try clear c73
            try clear hcz11_0
            try clear hcz11_1
            try clear hcz12_0
            try clear hcz18_0
            try clear hcz18_1
            try clear hcz19_0
            try clear hcz23_0
            try clear hcz23_1
            try clear hcz24_0
            try clear hcz29_0
            try clear hcz29_1
            try clear hcz30_0
            try clear hcz38_0
            try clear hcz38_1
            try clear hcz38_2
            try clear hcz51_0
            try clear hcz51_1
            try clear hcz51_2
            try clear hcz55_0
            try clear hcz66_0
            try clear hcz72_0
            try clear hfz11_0
            try clear hfz11_1
            try clear hfz12_0
            try clear hfz18_0
            try clear hfz18_1
            try clear hfz19_0
            try clear hfz23_0
            try clear hfz23_1
            try clear hfz24_0
            try clear hfz29_0
            try clear hfz29_1
            try clear hfz30_0
            try clear hfz38_0
            try clear hfz38_1
            try clear hfz38_2
            try clear hfz51_0
            try clear hfz51_1
            try clear hfz51_2
            try clear hfz55_0
            try clear hfz66_0
            try clear hfz72_0
            try clear hx410_0
            try clear hx410_1
            try clear hx410_2
            try clear p2
            try clear p4
            try clear p41
            try clear p410
            try clear p6
            try clear p64
            try clear q4
            try clear q41
            try clear q410
            obtain ⟨x12_3,rfl,HA,HK3,HO_425000,BK399,BK400,BK409,BK424,HB⟩:=hrel
            cases gk with
            | zero=>exact absurd HA.out (by simp [laws_FnBest.l1])
            | succ k3=>
             have H:=HA.out
             clear HA
             simp only [laws_FnBest.l1] at H
             by_cases c79:x12_3 < (t396.length:Int)
             ·rw [if_pos c79] at H
              have c79b0:decide (x12_3 < (t396.length:Int))=true:=decide_eq_true c79
              clear c79
              by_cases c80:0≤x12_3
              ·rw [if_pos c80] at H
               have c80b0:decide (0≤x12_3)=true:=decide_eq_true c80
               clear c80
               replace H:=Option.bind_eq_some_iff.mp H
               obtain ⟨t429,A810,H⟩:=H
               try dsimp only at H
               have A81:=Aside0.mk A810
               clear A810
               by_cases c82:t429=true
               ·subst c82
                rw [if_pos rfl] at H
                have H':=Aside0.mk H
                clear H
                try go_wp2
                have n0_:=Aside0.mk (Kd.R_drew HO_425000.out);have n1_:=Aside0.mk (blk_drew BK399.out);have n2_:=Aside0.mk (blk_drew BK400.out);have n3_:=Aside0.mk (blk_drew BK409.out);have n4_:=Aside0.mk (blk_drew BK424.out);have n5_:=Aside0.mk (below_drew1 HB.out);clear HO_425000 BK399 BK400 BK409 BK424 HB;have HO_425000:=n0_;have BK399:=n1_;have BK400:=n2_;have BK409:=n3_;have BK424:=n4_;have HB:=n5_;clear n0_ n1_ n2_ n3_ n4_ n5_
                have p428:0≤(x12_3:Int):=of_decide_eq_true (by first|(with_reducible assumption)|assumption)
                have q428:x12_3 < (t396.length:Int):=of_decide_eq_true (by first|(with_reducible assumption)|assumption)
                obtain ⟨ad428,e428,hx428_0,hx428_1,hx428_2⟩:=at_T76 HR396.out x12_3 p428 q428
                have hw428_2:=hx428_2;have hw428_1:=hx428_1;have hw428_0:=hx428_0
                cases e428
                replace hx428_0:=(HB.out.cell (World.block_lt_of_cell? w _ hx428_0)).trans hx428_0
                replace hx428_1:=(HB.out.cell (World.block_lt_of_cell? w _ hx428_1)).trans hx428_1
                replace hx428_2:=(HB.out.cell (World.block_lt_of_cell? w _ hx428_2)).trans hx428_2
                replace p428:=eq_true p428
                replace q428:=eq_true q428
                refine start_ (n:=8) (S:=fun w'=>w'.cell? ⟨gb400,0,none⟩=some (.slice A393 t393.length c393)∧w'.cell? (ad428.add ((x12_3).toNat * 3))=some (.int .i64 ((rd_T76 t396 x12_3).f0))∧w'.cell? ⟨(ad428.add ((x12_3).toNat * 3)).block,(ad428.add ((x12_3).toNat * 3)).off+1,none⟩=some (.int .i64 ((rd_T76 t396 x12_3).f1))∧w'.cell? ⟨(ad428.add ((x12_3).toNat * 3)).block,(ad428.add ((x12_3).toNat * 3)).off+2,none⟩=some (.int .i64 ((rd_T76 t396 x12_3).f2))) (ds:=[]) (fl 8 0) (by kernel_rfl) rfl rfl ⟨(blk_cell BK400.out 0).trans rfl,((HB.out.cell (World.block_lt_of_cell? w _ hw428_0)).trans hw428_0),((HB.out.cell (World.block_lt_of_cell? w _ hw428_1)).trans hw428_1),((HB.out.cell (World.block_lt_of_cell? w _ hw428_2)).trans hw428_2)⟩ (fun hHeld=>?_);refine with_tabW laws_FnBest.tab22 laws_FnBest.bits22 (fun HT_ HW_=>?_)
                generalize wr.drew=w83 at HO_425000 BK399 BK400 BK409 BK424 HB hx428_0 hx428_1 hx428_2 hHeld ⊢
                refine pt 0 96 (fl 8 1) HT_ ?_
                refine pt 2 98 (fl 8 5) HT_ ?_
                refine pt 3 99 (fl 8 13) HT_ ?_
                refine pt 4 100 (fl 8 29) HT_ ?_
                refine pt 5 101 (fl 8 61) HT_ ?_
                refine tt 1 97 (fl 8 63) HT_ HW_ hHeld ?_
                refine tt 6 102 (fl 8 127) HT_ HW_ hHeld ?_
                refine ot 7 (some 103) (fl 8 255) HT_ (fun K hK=>?_)
                refine goes_ Try.func51 (by kernel_rfl) rfl #[.slice A393 t393.length c393,.int .i64 ((rd_T76 t396 x12_3).f0)] (by rfl) rfl rfl (by (try simp only [List.map_toArray,List.map_cons,List.map_nil]);first|done|rfl|(simp only [List.length_drop,List.length_take];rfl)) ?_
                with_reducible refine (laws_has.calls k3 _ _ t393 ((rd_T76 t396 x12_3).f0) true _ ?side1 ?side2 A81.out).mono ?_
                (case side1=>exact rC HR393)
                (case side2=>exact HC393.out)
                rintro e w' ⟨rfl,⟨nd,rfl⟩⟩
                refine ⟨_,rfl,?_⟩
                refine hK.out _ _ ⟨(blk_cell BK400.out 0).trans rfl,((HB.out.cell (World.block_lt_of_cell? w _ hw428_0)).trans hw428_0),((HB.out.cell (World.block_lt_of_cell? w _ hw428_1)).trans hw428_1),((HB.out.cell (World.block_lt_of_cell? w _ hw428_2)).trans hw428_2)⟩ (fun hHeld=>?_)
                clear hK K
                refine no 103 ?_
                refine done_ (done_of HT_.out (by kernel_rfl)) ?_
                try go_wp2
                go_roundg k3
                case measure=>have:=HJ5.out;have:=HJ45.out;have:=HK3.out;omega
                case rel=>exact ⟨(wrap64 (x12_3+1)),rd_,H',⟨by have:=HJ5.out;have:=HJ45.out;have:=HK3.out;omega⟩,⟨rR HO_425000⟩,⟨bk BK399⟩,⟨bk BK400⟩,⟨bk BK409⟩,⟨bk BK424⟩,⟨be⟩⟩
               ·replace c82:=Bool.eq_false_iff.mpr c82
                subst c82
                replace H:=(if_neg (show ¬ (false=true) by decide)).symm.trans H
                obtain ⟨y430,hy430⟩ : ∃ y_:List Int,y_=(([]:List Int)):=⟨_,rfl⟩
                replace H:(if y430.length+t393.length < 17592186044416 then ((some (y430 ++ t393:List Int)).bind fun y433=>((some (([(rd_T76 t396 x12_3).f0]:List Int):List Int)).bind fun y437=>(if y433.length+y437.length < 17592186044416 then ((impl_SpreadOf.f k3 (y433 ++ y437) t396).bind fun t444=>((impl_SpreadOf.f k3 t393 t396).bind fun t445=>(if t444 > t445 then (if fr_=true then (if ((decide (t444 > t445)) == fr_)=true then ((impl_LoadOf.f k3 t389 t390 ((rd_T76 t396 x12_3).f0)).bind fun t447=>((impl_LoadOf.f k3 t389 t390 t401).bind fun t448=>(laws_FnBest.j4 k3 t396 t401 fr_ x12_3 (decide ((wrap64 ((wrap64 (t447+1)) * t407)) < (wrap64 ((wrap64 (t448+1)) * ((rd_T76 t396 x12_3).f2))))) t389 t390 t393 t405 t406 t407))) else (laws_FnBest.j4 k3 t396 t401 fr_ x12_3 false t389 t390 t393 t405 t406 t407)) else (laws_FnBest.j4 k3 t396 t401 fr_ x12_3 true t389 t390 t393 t405 t406 t407)) else (if ((decide (t444 > t445)) == fr_)=true then ((impl_LoadOf.f k3 t389 t390 ((rd_T76 t396 x12_3).f0)).bind fun t451=>((impl_LoadOf.f k3 t389 t390 t401).bind fun t452=>(laws_FnBest.j4 k3 t396 t401 fr_ x12_3 (decide ((wrap64 ((wrap64 (t451+1)) * t407)) < (wrap64 ((wrap64 (t452+1)) * ((rd_T76 t396 x12_3).f2))))) t389 t390 t393 t405 t406 t407))) else (laws_FnBest.j4 k3 t396 t401 fr_ x12_3 false t389 t390 t393 t405 t406 t407))))) else (none)))) else (none))=some r:=by first|(rw [hy430];with_reducible exact H)|(have H2_:=(Option.bind_some _ _).symm.trans H;rw [hy430];with_reducible exact H2_)|(have H2_:=(Option.bind_some _ _).symm.trans H;with_reducible exact H2_)|with_reducible exact H|(rw [hy430];exact H)|exact H
                have Ny430:=Aside0.mk hy430
                clear hy430
                by_cases c84:y430.length+t393.length < 17592186044416
                ·rw [if_pos c84] at H
                 have LMc84:=Aside0.mk c84
                 clear c84
                 obtain ⟨y433,hy433⟩ : ∃ y_:List Int,y_=(y430 ++ t393):=⟨_,rfl⟩
                 replace H:((some (([(rd_T76 t396 x12_3).f0]:List Int):List Int)).bind fun y437=>(if y433.length+y437.length < 17592186044416 then ((impl_SpreadOf.f k3 (y433 ++ y437) t396).bind fun t444=>((impl_SpreadOf.f k3 t393 t396).bind fun t445=>(if t444 > t445 then (if fr_=true then (if ((decide (t444 > t445)) == fr_)=true then ((impl_LoadOf.f k3 t389 t390 ((rd_T76 t396 x12_3).f0)).bind fun t447=>((impl_LoadOf.f k3 t389 t390 t401).bind fun t448=>(laws_FnBest.j4 k3 t396 t401 fr_ x12_3 (decide ((wrap64 ((wrap64 (t447+1)) * t407)) < (wrap64 ((wrap64 (t448+1)) * ((rd_T76 t396 x12_3).f2))))) t389 t390 t393 t405 t406 t407))) else (laws_FnBest.j4 k3 t396 t401 fr_ x12_3 false t389 t390 t393 t405 t406 t407)) else (laws_FnBest.j4 k3 t396 t401 fr_ x12_3 true t389 t390 t393 t405 t406 t407)) else (if ((decide (t444 > t445)) == fr_)=true then ((impl_LoadOf.f k3 t389 t390 ((rd_T76 t396 x12_3).f0)).bind fun t451=>((impl_LoadOf.f k3 t389 t390 t401).bind fun t452=>(laws_FnBest.j4 k3 t396 t401 fr_ x12_3 (decide ((wrap64 ((wrap64 (t451+1)) * t407)) < (wrap64 ((wrap64 (t452+1)) * ((rd_T76 t396 x12_3).f2))))) t389 t390 t393 t405 t406 t407))) else (laws_FnBest.j4 k3 t396 t401 fr_ x12_3 false t389 t390 t393 t405 t406 t407))))) else (none)))=some r:=by first|(rw [hy433];with_reducible exact H)|(have H2_:=(Option.bind_some _ _).symm.trans H;rw [hy433];with_reducible exact H2_)|(have H2_:=(Option.bind_some _ _).symm.trans H;with_reducible exact H2_)|with_reducible exact H|(rw [hy433];exact H)|exact H
                 have Ny433:=Aside0.mk hy433
                 clear hy433
                 obtain ⟨y437,hy437⟩ : ∃ y_:List Int,y_=(([(rd_T76 t396 x12_3).f0]:List Int)):=⟨_,rfl⟩
                 replace H:(if y433.length+y437.length < 17592186044416 then ((impl_SpreadOf.f k3 (y433 ++ y437) t396).bind fun t444=>((impl_SpreadOf.f k3 t393 t396).bind fun t445=>(if t444 > t445 then (if fr_=true then (if ((decide (t444 > t445)) == fr_)=true then ((impl_LoadOf.f k3 t389 t390 ((rd_T76 t396 x12_3).f0)).bind fun t447=>((impl_LoadOf.f k3 t389 t390 t401).bind fun t448=>(laws_FnBest.j4 k3 t396 t401 fr_ x12_3 (decide ((wrap64 ((wrap64 (t447+1)) * t407)) < (wrap64 ((wrap64 (t448+1)) * ((rd_T76 t396 x12_3).f2))))) t389 t390 t393 t405 t406 t407))) else (laws_FnBest.j4 k3 t396 t401 fr_ x12_3 false t389 t390 t393 t405 t406 t407)) else (laws_FnBest.j4 k3 t396 t401 fr_ x12_3 true t389 t390 t393 t405 t406 t407)) else (if ((decide (t444 > t445)) == fr_)=true then ((impl_LoadOf.f k3 t389 t390 ((rd_T76 t396 x12_3).f0)).bind fun t451=>((impl_LoadOf.f k3 t389 t390 t401).bind fun t452=>(laws_FnBest.j4 k3 t396 t401 fr_ x12_3 (decide ((wrap64 ((wrap64 (t451+1)) * t407)) < (wrap64 ((wrap64 (t452+1)) * ((rd_T76 t396 x12_3).f2))))) t389 t390 t393 t405 t406 t407))) else (laws_FnBest.j4 k3 t396 t401 fr_ x12_3 false t389 t390 t393 t405 t406 t407))))) else (none))=some r:=by first|(rw [hy437];with_reducible exact H)|(have H2_:=(Option.bind_some _ _).symm.trans H;rw [hy437];with_reducible exact H2_)|(have H2_:=(Option.bind_some _ _).symm.trans H;with_reducible exact H2_)|with_reducible exact H|(rw [hy437];exact H)|exact H
                 have Ny437:=Aside0.mk hy437
                 clear hy437
                 by_cases c85:y433.length+y437.length < 17592186044416
                 ·rw [if_pos c85] at H
                  have LMc85:=Aside0.mk c85
                  clear c85
                  obtain ⟨y440,hy440⟩ : ∃ y_:List Int,y_=(y433 ++ y437):=⟨_,rfl⟩
                  replace H:((impl_SpreadOf.f k3 y440 t396).bind fun t444=>((impl_SpreadOf.f k3 t393 t396).bind fun t445=>(if t444 > t445 then (if fr_=true then (if ((decide (t444 > t445)) == fr_)=true then ((impl_LoadOf.f k3 t389 t390 ((rd_T76 t396 x12_3).f0)).bind fun t447=>((impl_LoadOf.f k3 t389 t390 t401).bind fun t448=>(laws_FnBest.j4 k3 t396 t401 fr_ x12_3 (decide ((wrap64 ((wrap64 (t447+1)) * t407)) < (wrap64 ((wrap64 (t448+1)) * ((rd_T76 t396 x12_3).f2))))) t389 t390 t393 t405 t406 t407))) else (laws_FnBest.j4 k3 t396 t401 fr_ x12_3 false t389 t390 t393 t405 t406 t407)) else (laws_FnBest.j4 k3 t396 t401 fr_ x12_3 true t389 t390 t393 t405 t406 t407)) else (if ((decide (t444 > t445)) == fr_)=true then ((impl_LoadOf.f k3 t389 t390 ((rd_T76 t396 x12_3).f0)).bind fun t451=>((impl_LoadOf.f k3 t389 t390 t401).bind fun t452=>(laws_FnBest.j4 k3 t396 t401 fr_ x12_3 (decide ((wrap64 ((wrap64 (t451+1)) * t407)) < (wrap64 ((wrap64 (t452+1)) * ((rd_T76 t396 x12_3).f2))))) t389 t390 t393 t405 t406 t407))) else (laws_FnBest.j4 k3 t396 t401 fr_ x12_3 false t389 t390 t393 t405 t406 t407)))))=some r:=by first|(rw [hy440];with_reducible exact H)|(have H2_:=(Option.bind_some _ _).symm.trans H;rw [hy440];with_reducible exact H2_)|(have H2_:=(Option.bind_some _ _).symm.trans H;with_reducible exact H2_)|with_reducible exact H|(rw [hy440];exact H)|exact H
                  have Ny440:=Aside0.mk hy440
                  clear hy440
                  replace H:=Option.bind_eq_some_iff.mp H
                  obtain ⟨t444,A860,H⟩:=H
                  try dsimp only at H
                  have A86:=Aside0.mk A860
                  clear A860
                  replace H:=Option.bind_eq_some_iff.mp H
                  obtain ⟨t445,A870,H⟩:=H
                  try dsimp only at H
                  have A87:=Aside0.mk A870
                  clear A870
                  have HC88:=Aside0.mk H
                  clear H
                  try go_wp2
                  have n0_:=Aside0.mk (Kd.R_drew HO_425000.out);have n1_:=Aside0.mk (blk_drew BK399.out);have n2_:=Aside0.mk (blk_drew BK400.out);have n3_:=Aside0.mk (blk_drew BK409.out);have n4_:=Aside0.mk (blk_drew BK424.out);have n5_:=Aside0.mk (below_drew1 HB.out);clear HO_425000 BK399 BK400 BK409 BK424 HB;have HO_425000:=n0_;have BK399:=n1_;have BK400:=n2_;have BK409:=n3_;have BK424:=n4_;have HB:=n5_;clear n0_ n1_ n2_ n3_ n4_ n5_
                  have p428:0≤(x12_3:Int):=of_decide_eq_true (by first|(with_reducible assumption)|assumption)
                  have q428:x12_3 < (t396.length:Int):=of_decide_eq_true (by first|(with_reducible assumption)|assumption)
                  obtain ⟨ad428,e428,hx428_0,hx428_1,hx428_2⟩:=at_T76 HR396.out x12_3 p428 q428
                  have hw428_2:=hx428_2;have hw428_1:=hx428_1;have hw428_0:=hx428_0
                  cases e428
                  replace hx428_0:=(HB.out.cell (World.block_lt_of_cell? w _ hx428_0)).trans hx428_0
                  replace hx428_1:=(HB.out.cell (World.block_lt_of_cell? w _ hx428_1)).trans hx428_1
                  replace hx428_2:=(HB.out.cell (World.block_lt_of_cell? w _ hx428_2)).trans hx428_2
                  replace p428:=eq_true p428
                  replace q428:=eq_true q428
                  refine start_ (n:=8) (S:=fun w'=>w'.cell? ⟨gb400,0,none⟩=some (.slice A393 t393.length c393)∧w'.cell? (ad428.add ((x12_3).toNat * 3))=some (.int .i64 ((rd_T76 t396 x12_3).f0))∧w'.cell? ⟨(ad428.add ((x12_3).toNat * 3)).block,(ad428.add ((x12_3).toNat * 3)).off+1,none⟩=some (.int .i64 ((rd_T76 t396 x12_3).f1))∧w'.cell? ⟨(ad428.add ((x12_3).toNat * 3)).block,(ad428.add ((x12_3).toNat * 3)).off+2,none⟩=some (.int .i64 ((rd_T76 t396 x12_3).f2))) (ds:=[]) (fl 8 0) (by kernel_rfl) rfl rfl ⟨(blk_cell BK400.out 0).trans rfl,((HB.out.cell (World.block_lt_of_cell? w _ hw428_0)).trans hw428_0),((HB.out.cell (World.block_lt_of_cell? w _ hw428_1)).trans hw428_1),((HB.out.cell (World.block_lt_of_cell? w _ hw428_2)).trans hw428_2)⟩ (fun hHeld=>?_);refine with_tabW laws_FnBest.tab22 laws_FnBest.bits22 (fun HT_ HW_=>?_)
                  generalize wr.drew=w89 at HO_425000 BK399 BK400 BK409 BK424 HB hx428_0 hx428_1 hx428_2 hHeld ⊢
                  refine pt 0 96 (fl 8 1) HT_ ?_
                  refine pt 2 98 (fl 8 5) HT_ ?_
                  refine pt 3 99 (fl 8 13) HT_ ?_
                  refine pt 4 100 (fl 8 29) HT_ ?_
                  refine pt 5 101 (fl 8 61) HT_ ?_
                  refine tt 1 97 (fl 8 63) HT_ HW_ hHeld ?_
                  refine tt 6 102 (fl 8 127) HT_ HW_ hHeld ?_
                  refine ot 7 (some 103) (fl 8 255) HT_ (fun K hK=>?_)
                  refine goes_ Try.func51 (by kernel_rfl) rfl #[.slice A393 t393.length c393,.int .i64 ((rd_T76 t396 x12_3).f0)] (by rfl) rfl rfl (by (try simp only [List.map_toArray,List.map_cons,List.map_nil]);first|done|rfl|(simp only [List.length_drop,List.length_take];rfl)) ?_
                  with_reducible refine (laws_has.calls k3 _ _ t393 ((rd_T76 t396 x12_3).f0) false _ ?side1 ?side2 A81.out).mono ?_
                  (case side1=>exact rC HR393)
                  (case side2=>exact HC393.out)
                  rintro e w' ⟨rfl,⟨nd,rfl⟩⟩
                  refine ⟨_,rfl,?_⟩
                  refine hK.out _ _ ⟨(blk_cell BK400.out 0).trans rfl,((HB.out.cell (World.block_lt_of_cell? w _ hw428_0)).trans hw428_0),((HB.out.cell (World.block_lt_of_cell? w _ hw428_1)).trans hw428_1),((HB.out.cell (World.block_lt_of_cell? w _ hw428_2)).trans hw428_2)⟩ (fun hHeld=>?_)
                  clear hK K
                  refine no 103 ?_
                  refine done_ (done_of HT_.out (by kernel_rfl)) ?_
                  try go_wp2
                  (try (rw [drewN_self w89];generalize hq_:World.drewN w89 _=w89;have n0_:Aside0 (Kd.R (Kd.int .i64) 3 w89 w.heap.size (fun _=>True) (.slice Ao61 y421.length co61) y421):=⟨by rw [← hq_];exact (rR HO_425000)⟩;have n1_:Aside0 (w89.heap[gb399]?=some (.cells #[.int .i64 t389,.slice A390 t390.length c390] 43 (0,0))):=⟨by rw [← hq_];exact (bk BK399)⟩;have n2_:Aside0 (w89.heap[gb400]?=some (.cells #[.slice A393 t393.length c393] 29 (0,0))):=⟨by rw [← hq_];exact (bk BK400)⟩;have n3_:Aside0 (w89.heap[gb409]?=some (.cells #[.int .i64 t405,.int .i64 t406,.int .i64 t407] 76 (0,0))):=⟨by rw [← hq_];exact (bk BK409)⟩;have n4_:Aside0 (w89.heap[gb424]?=some (.cells #[.slice Ao61 y421.length co61] 29 (0,0))):=⟨by rw [← hq_];exact (bk BK424)⟩;have n5_:Aside0 (Below w.heap.size w w89):=⟨by rw [← hq_];exact be⟩;clear HO_425000 BK399 BK400 BK409 BK424 HB hq_;have HO_425000:=n0_;have BK399:=n1_;have BK400:=n2_;have BK409:=n3_;have BK424:=n4_;have HB:=n5_;clear n0_ n1_ n2_ n3_ n4_ n5_))
                  have n0_:=Aside0.mk (Kd.R_drew HO_425000.out);have n1_:=Aside0.mk (blk_drew BK399.out);have n2_:=Aside0.mk (blk_drew BK400.out);have n3_:=Aside0.mk (blk_drew BK409.out);have n4_:=Aside0.mk (blk_drew BK424.out);have n5_:=Aside0.mk (below_drew1 HB.out);clear HO_425000 BK399 BK400 BK409 BK424 HB;have HO_425000:=n0_;have BK399:=n1_;have BK400:=n2_;have BK409:=n3_;have BK424:=n4_;have HB:=n5_;clear n0_ n1_ n2_ n3_ n4_ n5_
                  have p436:0≤(x12_3:Int):=of_decide_eq_true (by first|(with_reducible assumption)|assumption)
                  have q436:x12_3 < (t396.length:Int):=of_decide_eq_true (by first|(with_reducible assumption)|assumption)
                  obtain ⟨ad436,e436,hx436_0,hx436_1,hx436_2⟩:=at_T76 HR396.out x12_3 p436 q436
                  have hw436_2:=hx436_2;have hw436_1:=hx436_1;have hw436_0:=hx436_0
                  obtain rfl:ad428=ad436:=(by injection e436)
                  replace hx436_0:=(HB.out.cell (World.block_lt_of_cell? w _ hx436_0)).trans hx436_0
                  replace hx436_1:=(HB.out.cell (World.block_lt_of_cell? w _ hx436_1)).trans hx436_1
                  replace hx436_2:=(HB.out.cell (World.block_lt_of_cell? w _ hx436_2)).trans hx436_2
                  replace p436:=eq_true p436
                  replace q436:=eq_true q436
                  refine start_ (n:=14) (S:=fun w'=>w'.cell? ⟨gb400,0,none⟩=some (.slice A393 t393.length c393)∧w'.cell? (ad428.add ((x12_3).toNat * 3))=some (.int .i64 ((rd_T76 t396 x12_3).f0))∧w'.cell? ⟨(ad428.add ((x12_3).toNat * 3)).block,(ad428.add ((x12_3).toNat * 3)).off+1,none⟩=some (.int .i64 ((rd_T76 t396 x12_3).f1))∧w'.cell? ⟨(ad428.add ((x12_3).toNat * 3)).block,(ad428.add ((x12_3).toNat * 3)).off+2,none⟩=some (.int .i64 ((rd_T76 t396 x12_3).f2))) (ds:=[]) (fl 14 0) (by kernel_rfl) rfl rfl ⟨(blk_cell BK400.out 0).trans rfl,((HB.out.cell (World.block_lt_of_cell? w _ hw436_0)).trans hw436_0),((HB.out.cell (World.block_lt_of_cell? w _ hw436_1)).trans hw436_1),((HB.out.cell (World.block_lt_of_cell? w _ hw436_2)).trans hw436_2)⟩ (fun hHeld=>?_);refine with_tabW laws_FnBest.tab23 laws_FnBest.bits23 (fun HT_ HW_=>?_)
                  generalize w89.drew=w90 at HO_425000 BK399 BK400 BK409 BK424 HB hx436_0 hx436_1 hx436_2 hHeld ⊢
                  refine pt 1 105 (fl 14 2) HT_ ?_
                  refine pt 4 108 (fl 14 18) HT_ ?_
                  refine pt 5 109 (fl 14 50) HT_ ?_
                  refine pt 6 110 (fl 14 114) HT_ ?_
                  refine pt 7 111 (fl 14 242) HT_ ?_
                  refine tt 2 106 (fl 14 246) HT_ HW_ hHeld ?_
                  refine tt 8 112 (fl 14 502) HT_ HW_ hHeld ?_
                  refine join_ (σ:=Value × Value × Value × Value × Nat) 1 (fl 14 8191) (fun s_=>[(104,s_.1),(107,s_.2.1),(113,s_.2.2.1),(114,s_.2.2.2.1),(13,.pointer (some ⟨s_.2.2.2.2,0,none⟩)),(115,.agg #[s_.2.2.2.1])]) (fun s_ w'=>(w'.cell? ⟨gb400,0,none⟩=some (.slice A393 t393.length c393)∧w'.cell? (ad428.add ((x12_3).toNat * 3))=some (.int .i64 ((rd_T76 t396 x12_3).f0))∧w'.cell? ⟨(ad428.add ((x12_3).toNat * 3)).block,(ad428.add ((x12_3).toNat * 3)).off+1,none⟩=some (.int .i64 ((rd_T76 t396 x12_3).f1))∧w'.cell? ⟨(ad428.add ((x12_3).toNat * 3)).block,(ad428.add ((x12_3).toNat * 3)).off+2,none⟩=some (.int .i64 ((rd_T76 t396 x12_3).f2)))∧(Kd.R (Kd.int .i64) 3 w' w.heap.size (fun k_=>some k_ ≠ (s_.2.2.2.1:Value).ownBlock∧some k_ ≠ (.slice Ao61 y421.length co61:Value).ownBlock) s_.2.2.1 y437)∧(Kd.R (Kd.int .i64) 3 w' w.heap.size (fun k_=>some k_ ≠ (s_.2.2.1:Value).ownBlock∧some k_ ≠ (.slice Ao61 y421.length co61:Value).ownBlock) s_.2.2.2.1 y440)∧(Kd.R (Kd.int .i64) 3 w' w.heap.size (fun k_=>some k_ ≠ (s_.2.2.1:Value).ownBlock∧some k_ ≠ (s_.2.2.2.1:Value).ownBlock) (.slice Ao61 y421.length co61) y421)∧(w'.heap[gb399]?=some (.cells #[.int .i64 t389,.slice A390 t390.length c390] 43 (0,0)))∧(w'.heap[gb400]?=some (.cells #[.slice A393 t393.length c393] 29 (0,0)))∧(w'.heap[gb409]?=some (.cells #[.int .i64 t405,.int .i64 t406,.int .i64 t407] 76 (0,0)))∧(w'.heap[gb424]?=some (.cells #[.slice Ao61 y421.length co61] 29 (0,0)))∧(w'.heap[s_.2.2.2.2]?=some (.cells #[.slice none 0 0] 29 (0,0)))∧(w.heap.size≤s_.2.2.2.2)∧(w.heap.size≤s_.2.2.2.2)∧(gb399 ≠ s_.2.2.2.2)∧(s_.2.2.2.2 ≠ gb399)∧(gb400 ≠ s_.2.2.2.2)∧(s_.2.2.2.2 ≠ gb400)∧(gb409 ≠ s_.2.2.2.2)∧(s_.2.2.2.2 ≠ gb409)∧(gb424 ≠ s_.2.2.2.2)∧(s_.2.2.2.2 ≠ gb424)∧(Below w.heap.size w w')) ?_ ?_
                  rotate_left
                  ·intro hJ0_3_9_10_12
                   refine join_ (σ:=Value × Value × Value × Value) 2 (fl 14 4095) (fun s_=>[(104,s_.1),(107,s_.2.1),(113,s_.2.2.1),(114,s_.2.2.2),(115,.agg #[s_.2.2.2])]) (fun s_ w'=>(w'.cell? ⟨gb400,0,none⟩=some (.slice A393 t393.length c393)∧w'.cell? (ad428.add ((x12_3).toNat * 3))=some (.int .i64 ((rd_T76 t396 x12_3).f0))∧w'.cell? ⟨(ad428.add ((x12_3).toNat * 3)).block,(ad428.add ((x12_3).toNat * 3)).off+1,none⟩=some (.int .i64 ((rd_T76 t396 x12_3).f1))∧w'.cell? ⟨(ad428.add ((x12_3).toNat * 3)).block,(ad428.add ((x12_3).toNat * 3)).off+2,none⟩=some (.int .i64 ((rd_T76 t396 x12_3).f2)))∧(Kd.R (Kd.int .i64) 3 w' w.heap.size (fun k_=>some k_ ≠ (s_.2.2.2:Value).ownBlock∧some k_ ≠ (.slice Ao61 y421.length co61:Value).ownBlock) s_.2.2.1 y437)∧(Kd.R (Kd.int .i64) 3 w' w.heap.size (fun k_=>some k_ ≠ (s_.2.2.1:Value).ownBlock∧some k_ ≠ (.slice Ao61 y421.length co61:Value).ownBlock) s_.2.2.2 y440)∧(Kd.R (Kd.int .i64) 3 w' w.heap.size (fun k_=>some k_ ≠ (s_.2.2.1:Value).ownBlock∧some k_ ≠ (s_.2.2.2:Value).ownBlock) (.slice Ao61 y421.length co61) y421)∧(w'.heap[gb399]?=some (.cells #[.int .i64 t389,.slice A390 t390.length c390] 43 (0,0)))∧(w'.heap[gb400]?=some (.cells #[.slice A393 t393.length c393] 29 (0,0)))∧(w'.heap[gb409]?=some (.cells #[.int .i64 t405,.int .i64 t406,.int .i64 t407] 76 (0,0)))∧(w'.heap[gb424]?=some (.cells #[.slice Ao61 y421.length co61] 29 (0,0)))∧(Below w.heap.size w w')) ?_ ?_
                   rotate_left
                   ·intro hJ0_3_9_10
                    refine join_ (σ:=Value × Value × Value × Nat) 3 (fl 14 5119) (fun s_=>[(104,s_.1),(107,s_.2.1),(113,s_.2.2.1),(13,.pointer (some ⟨s_.2.2.2,0,none⟩))]) (fun s_ w'=>(w'.cell? ⟨gb400,0,none⟩=some (.slice A393 t393.length c393)∧w'.cell? (ad428.add ((x12_3).toNat * 3))=some (.int .i64 ((rd_T76 t396 x12_3).f0))∧w'.cell? ⟨(ad428.add ((x12_3).toNat * 3)).block,(ad428.add ((x12_3).toNat * 3)).off+1,none⟩=some (.int .i64 ((rd_T76 t396 x12_3).f1))∧w'.cell? ⟨(ad428.add ((x12_3).toNat * 3)).block,(ad428.add ((x12_3).toNat * 3)).off+2,none⟩=some (.int .i64 ((rd_T76 t396 x12_3).f2)))∧(Kd.R (Kd.int .i64) 3 w' w.heap.size (fun k_=>some k_ ≠ (s_.2.2.1:Value).ownBlock∧some k_ ≠ (.slice Ao61 y421.length co61:Value).ownBlock) s_.2.1 y433)∧(Kd.R (Kd.int .i64) 3 w' w.heap.size (fun k_=>some k_ ≠ (s_.2.1:Value).ownBlock∧some k_ ≠ (.slice Ao61 y421.length co61:Value).ownBlock) s_.2.2.1 y437)∧(Kd.R (Kd.int .i64) 3 w' w.heap.size (fun k_=>some k_ ≠ (s_.2.1:Value).ownBlock∧some k_ ≠ (s_.2.2.1:Value).ownBlock) (.slice Ao61 y421.length co61) y421)∧(w'.heap[gb399]?=some (.cells #[.int .i64 t389,.slice A390 t390.length c390] 43 (0,0)))∧(w'.heap[gb400]?=some (.cells #[.slice A393 t393.length c393] 29 (0,0)))∧(w'.heap[gb409]?=some (.cells #[.int .i64 t405,.int .i64 t406,.int .i64 t407] 76 (0,0)))∧(w'.heap[gb424]?=some (.cells #[.slice Ao61 y421.length co61] 29 (0,0)))∧(w'.heap[s_.2.2.2]?=some (.cells #[.slice none 0 0] 29 (0,0)))∧(w.heap.size≤s_.2.2.2)∧(w.heap.size≤s_.2.2.2)∧(gb399 ≠ s_.2.2.2)∧(s_.2.2.2 ≠ gb399)∧(gb400 ≠ s_.2.2.2)∧(s_.2.2.2 ≠ gb400)∧(gb409 ≠ s_.2.2.2)∧(s_.2.2.2 ≠ gb409)∧(gb424 ≠ s_.2.2.2)∧(s_.2.2.2 ≠ gb424)∧(Below w.heap.size w w')) ?_ ?_
                    rotate_left
                    ·intro hJ0_3_9_12
                     refine join_ (σ:=Value × Value × Value) 4 (fl 14 1023) (fun s_=>[(104,s_.1),(107,s_.2.1),(113,s_.2.2)]) (fun s_ w'=>(w'.cell? ⟨gb400,0,none⟩=some (.slice A393 t393.length c393)∧w'.cell? (ad428.add ((x12_3).toNat * 3))=some (.int .i64 ((rd_T76 t396 x12_3).f0))∧w'.cell? ⟨(ad428.add ((x12_3).toNat * 3)).block,(ad428.add ((x12_3).toNat * 3)).off+1,none⟩=some (.int .i64 ((rd_T76 t396 x12_3).f1))∧w'.cell? ⟨(ad428.add ((x12_3).toNat * 3)).block,(ad428.add ((x12_3).toNat * 3)).off+2,none⟩=some (.int .i64 ((rd_T76 t396 x12_3).f2)))∧(Kd.R (Kd.int .i64) 3 w' w.heap.size (fun k_=>some k_ ≠ (s_.2.2:Value).ownBlock∧some k_ ≠ (.slice Ao61 y421.length co61:Value).ownBlock) s_.2.1 y433)∧(Kd.R (Kd.int .i64) 3 w' w.heap.size (fun k_=>some k_ ≠ (s_.2.1:Value).ownBlock∧some k_ ≠ (.slice Ao61 y421.length co61:Value).ownBlock) s_.2.2 y437)∧(Kd.R (Kd.int .i64) 3 w' w.heap.size (fun k_=>some k_ ≠ (s_.2.1:Value).ownBlock∧some k_ ≠ (s_.2.2:Value).ownBlock) (.slice Ao61 y421.length co61) y421)∧(w'.heap[gb399]?=some (.cells #[.int .i64 t389,.slice A390 t390.length c390] 43 (0,0)))∧(w'.heap[gb400]?=some (.cells #[.slice A393 t393.length c393] 29 (0,0)))∧(w'.heap[gb409]?=some (.cells #[.int .i64 t405,.int .i64 t406,.int .i64 t407] 76 (0,0)))∧(w'.heap[gb424]?=some (.cells #[.slice Ao61 y421.length co61] 29 (0,0)))∧(Below w.heap.size w w')) ?_ ?_
                     rotate_left
                     ·intro hJ0_3_9
                      refine join_ (σ:=Value × Value × Nat) 4 (fl 14 4607) (fun s_=>[(104,s_.1),(107,s_.2.1),(13,.pointer (some ⟨s_.2.2,0,none⟩))]) (fun s_ w'=>(w'.cell? ⟨gb400,0,none⟩=some (.slice A393 t393.length c393)∧w'.cell? (ad428.add ((x12_3).toNat * 3))=some (.int .i64 ((rd_T76 t396 x12_3).f0))∧w'.cell? ⟨(ad428.add ((x12_3).toNat * 3)).block,(ad428.add ((x12_3).toNat * 3)).off+1,none⟩=some (.int .i64 ((rd_T76 t396 x12_3).f1))∧w'.cell? ⟨(ad428.add ((x12_3).toNat * 3)).block,(ad428.add ((x12_3).toNat * 3)).off+2,none⟩=some (.int .i64 ((rd_T76 t396 x12_3).f2)))∧(Kd.R (Kd.int .i64) 3 w' w.heap.size (fun k_=>some k_ ≠ (.slice Ao61 y421.length co61:Value).ownBlock) s_.2.1 y433)∧(Kd.R (Kd.int .i64) 3 w' w.heap.size (fun k_=>some k_ ≠ (s_.2.1:Value).ownBlock) (.slice Ao61 y421.length co61) y421)∧(w'.heap[gb399]?=some (.cells #[.int .i64 t389,.slice A390 t390.length c390] 43 (0,0)))∧(w'.heap[gb400]?=some (.cells #[.slice A393 t393.length c393] 29 (0,0)))∧(w'.heap[gb409]?=some (.cells #[.int .i64 t405,.int .i64 t406,.int .i64 t407] 76 (0,0)))∧(w'.heap[gb424]?=some (.cells #[.slice Ao61 y421.length co61] 29 (0,0)))∧(w'.heap[s_.2.2]?=some (.cells #[.slice none 0 0] 29 (0,0)))∧(w.heap.size≤s_.2.2)∧(w.heap.size≤s_.2.2)∧(gb399 ≠ s_.2.2)∧(s_.2.2 ≠ gb399)∧(gb400 ≠ s_.2.2)∧(s_.2.2 ≠ gb400)∧(gb409 ≠ s_.2.2)∧(s_.2.2 ≠ gb409)∧(gb424 ≠ s_.2.2)∧(s_.2.2 ≠ gb424)∧(Below w.heap.size w w')) ?_ ?_
                      rotate_left
                      ·intro hJ0_3_12
                       refine join_ (σ:=Value × Value × Nat) 4 (fl 14 5111) (fun s_=>[(104,s_.1),(113,s_.2.1),(13,.pointer (some ⟨s_.2.2,0,none⟩))]) (fun s_ w'=>(w'.cell? ⟨gb400,0,none⟩=some (.slice A393 t393.length c393)∧w'.cell? (ad428.add ((x12_3).toNat * 3))=some (.int .i64 ((rd_T76 t396 x12_3).f0))∧w'.cell? ⟨(ad428.add ((x12_3).toNat * 3)).block,(ad428.add ((x12_3).toNat * 3)).off+1,none⟩=some (.int .i64 ((rd_T76 t396 x12_3).f1))∧w'.cell? ⟨(ad428.add ((x12_3).toNat * 3)).block,(ad428.add ((x12_3).toNat * 3)).off+2,none⟩=some (.int .i64 ((rd_T76 t396 x12_3).f2)))∧(Kd.R (Kd.int .i64) 3 w' w.heap.size (fun k_=>some k_ ≠ (s_.2.1:Value).ownBlock∧some k_ ≠ (.slice Ao61 y421.length co61:Value).ownBlock) s_.1 y430)∧(Kd.R (Kd.int .i64) 3 w' w.heap.size (fun k_=>some k_ ≠ (s_.1:Value).ownBlock∧some k_ ≠ (.slice Ao61 y421.length co61:Value).ownBlock) s_.2.1 y437)∧(Kd.R (Kd.int .i64) 3 w' w.heap.size (fun k_=>some k_ ≠ (s_.1:Value).ownBlock∧some k_ ≠ (s_.2.1:Value).ownBlock) (.slice Ao61 y421.length co61) y421)∧(w'.heap[gb399]?=some (.cells #[.int .i64 t389,.slice A390 t390.length c390] 43 (0,0)))∧(w'.heap[gb400]?=some (.cells #[.slice A393 t393.length c393] 29 (0,0)))∧(w'.heap[gb409]?=some (.cells #[.int .i64 t405,.int .i64 t406,.int .i64 t407] 76 (0,0)))∧(w'.heap[gb424]?=some (.cells #[.slice Ao61 y421.length co61] 29 (0,0)))∧(w'.heap[s_.2.2]?=some (.cells #[.slice none 0 0] 29 (0,0)))∧(w.heap.size≤s_.2.2)∧(w.heap.size≤s_.2.2)∧(gb399 ≠ s_.2.2)∧(s_.2.2 ≠ gb399)∧(gb400 ≠ s_.2.2)∧(s_.2.2 ≠ gb400)∧(gb409 ≠ s_.2.2)∧(s_.2.2 ≠ gb409)∧(gb424 ≠ s_.2.2)∧(s_.2.2 ≠ gb424)∧(Below w.heap.size w w')) ?_ ?_
                       rotate_left
                       ·intro hJ0_9_12
                        refine join_ (σ:=Value × Value) 5 (fl 14 511) (fun s_=>[(104,s_.1),(107,s_.2)]) (fun s_ w'=>(w'.cell? ⟨gb400,0,none⟩=some (.slice A393 t393.length c393)∧w'.cell? (ad428.add ((x12_3).toNat * 3))=some (.int .i64 ((rd_T76 t396 x12_3).f0))∧w'.cell? ⟨(ad428.add ((x12_3).toNat * 3)).block,(ad428.add ((x12_3).toNat * 3)).off+1,none⟩=some (.int .i64 ((rd_T76 t396 x12_3).f1))∧w'.cell? ⟨(ad428.add ((x12_3).toNat * 3)).block,(ad428.add ((x12_3).toNat * 3)).off+2,none⟩=some (.int .i64 ((rd_T76 t396 x12_3).f2)))∧(Kd.R (Kd.int .i64) 3 w' w.heap.size (fun k_=>some k_ ≠ (.slice Ao61 y421.length co61:Value).ownBlock) s_.2 y433)∧(Kd.R (Kd.int .i64) 3 w' w.heap.size (fun k_=>some k_ ≠ (s_.2:Value).ownBlock) (.slice Ao61 y421.length co61) y421)∧(w'.heap[gb399]?=some (.cells #[.int .i64 t389,.slice A390 t390.length c390] 43 (0,0)))∧(w'.heap[gb400]?=some (.cells #[.slice A393 t393.length c393] 29 (0,0)))∧(w'.heap[gb409]?=some (.cells #[.int .i64 t405,.int .i64 t406,.int .i64 t407] 76 (0,0)))∧(w'.heap[gb424]?=some (.cells #[.slice Ao61 y421.length co61] 29 (0,0)))∧(Below w.heap.size w w')) ?_ ?_
                        rotate_left
                        ·intro hJ0_3
                         refine join_ (σ:=Value × Value) 5 (fl 14 1015) (fun s_=>[(104,s_.1),(113,s_.2)]) (fun s_ w'=>(w'.cell? ⟨gb400,0,none⟩=some (.slice A393 t393.length c393)∧w'.cell? (ad428.add ((x12_3).toNat * 3))=some (.int .i64 ((rd_T76 t396 x12_3).f0))∧w'.cell? ⟨(ad428.add ((x12_3).toNat * 3)).block,(ad428.add ((x12_3).toNat * 3)).off+1,none⟩=some (.int .i64 ((rd_T76 t396 x12_3).f1))∧w'.cell? ⟨(ad428.add ((x12_3).toNat * 3)).block,(ad428.add ((x12_3).toNat * 3)).off+2,none⟩=some (.int .i64 ((rd_T76 t396 x12_3).f2)))∧(Kd.R (Kd.int .i64) 3 w' w.heap.size (fun k_=>some k_ ≠ (s_.2:Value).ownBlock∧some k_ ≠ (.slice Ao61 y421.length co61:Value).ownBlock) s_.1 y430)∧(Kd.R (Kd.int .i64) 3 w' w.heap.size (fun k_=>some k_ ≠ (s_.1:Value).ownBlock∧some k_ ≠ (.slice Ao61 y421.length co61:Value).ownBlock) s_.2 y437)∧(Kd.R (Kd.int .i64) 3 w' w.heap.size (fun k_=>some k_ ≠ (s_.1:Value).ownBlock∧some k_ ≠ (s_.2:Value).ownBlock) (.slice Ao61 y421.length co61) y421)∧(w'.heap[gb399]?=some (.cells #[.int .i64 t389,.slice A390 t390.length c390] 43 (0,0)))∧(w'.heap[gb400]?=some (.cells #[.slice A393 t393.length c393] 29 (0,0)))∧(w'.heap[gb409]?=some (.cells #[.int .i64 t405,.int .i64 t406,.int .i64 t407] 76 (0,0)))∧(w'.heap[gb424]?=some (.cells #[.slice Ao61 y421.length co61] 29 (0,0)))∧(Below w.heap.size w w')) ?_ ?_
                         rotate_left
                         ·intro hJ0_9
                          refine join_ (σ:=Value × Nat) 5 (fl 14 4599) (fun s_=>[(104,s_.1),(13,.pointer (some ⟨s_.2,0,none⟩))]) (fun s_ w'=>(w'.cell? ⟨gb400,0,none⟩=some (.slice A393 t393.length c393)∧w'.cell? (ad428.add ((x12_3).toNat * 3))=some (.int .i64 ((rd_T76 t396 x12_3).f0))∧w'.cell? ⟨(ad428.add ((x12_3).toNat * 3)).block,(ad428.add ((x12_3).toNat * 3)).off+1,none⟩=some (.int .i64 ((rd_T76 t396 x12_3).f1))∧w'.cell? ⟨(ad428.add ((x12_3).toNat * 3)).block,(ad428.add ((x12_3).toNat * 3)).off+2,none⟩=some (.int .i64 ((rd_T76 t396 x12_3).f2)))∧(Kd.R (Kd.int .i64) 3 w' w.heap.size (fun k_=>some k_ ≠ (.slice Ao61 y421.length co61:Value).ownBlock) s_.1 y430)∧(Kd.R (Kd.int .i64) 3 w' w.heap.size (fun k_=>some k_ ≠ (s_.1:Value).ownBlock) (.slice Ao61 y421.length co61) y421)∧(w'.heap[gb399]?=some (.cells #[.int .i64 t389,.slice A390 t390.length c390] 43 (0,0)))∧(w'.heap[gb400]?=some (.cells #[.slice A393 t393.length c393] 29 (0,0)))∧(w'.heap[gb409]?=some (.cells #[.int .i64 t405,.int .i64 t406,.int .i64 t407] 76 (0,0)))∧(w'.heap[gb424]?=some (.cells #[.slice Ao61 y421.length co61] 29 (0,0)))∧(w'.heap[s_.2]?=some (.cells #[.slice none 0 0] 29 (0,0)))∧(w.heap.size≤s_.2)∧(w.heap.size≤s_.2)∧(gb399 ≠ s_.2)∧(s_.2 ≠ gb399)∧(gb400 ≠ s_.2)∧(s_.2 ≠ gb400)∧(gb409 ≠ s_.2)∧(s_.2 ≠ gb409)∧(gb424 ≠ s_.2)∧(s_.2 ≠ gb424)∧(Below w.heap.size w w')) ?_ ?_
                          rotate_left
                          ·intro hJ0_12
                           refine join_ (σ:=Value × Nat) 5 (fl 14 5110) (fun s_=>[(113,s_.1),(13,.pointer (some ⟨s_.2,0,none⟩))]) (fun s_ w'=>(w'.cell? ⟨gb400,0,none⟩=some (.slice A393 t393.length c393)∧w'.cell? (ad428.add ((x12_3).toNat * 3))=some (.int .i64 ((rd_T76 t396 x12_3).f0))∧w'.cell? ⟨(ad428.add ((x12_3).toNat * 3)).block,(ad428.add ((x12_3).toNat * 3)).off+1,none⟩=some (.int .i64 ((rd_T76 t396 x12_3).f1))∧w'.cell? ⟨(ad428.add ((x12_3).toNat * 3)).block,(ad428.add ((x12_3).toNat * 3)).off+2,none⟩=some (.int .i64 ((rd_T76 t396 x12_3).f2)))∧(Kd.R (Kd.int .i64) 3 w' w.heap.size (fun k_=>some k_ ≠ (.slice Ao61 y421.length co61:Value).ownBlock) s_.1 y437)∧(Kd.R (Kd.int .i64) 3 w' w.heap.size (fun k_=>some k_ ≠ (s_.1:Value).ownBlock) (.slice Ao61 y421.length co61) y421)∧(w'.heap[gb399]?=some (.cells #[.int .i64 t389,.slice A390 t390.length c390] 43 (0,0)))∧(w'.heap[gb400]?=some (.cells #[.slice A393 t393.length c393] 29 (0,0)))∧(w'.heap[gb409]?=some (.cells #[.int .i64 t405,.int .i64 t406,.int .i64 t407] 76 (0,0)))∧(w'.heap[gb424]?=some (.cells #[.slice Ao61 y421.length co61] 29 (0,0)))∧(w'.heap[s_.2]?=some (.cells #[.slice none 0 0] 29 (0,0)))∧(w.heap.size≤s_.2)∧(w.heap.size≤s_.2)∧(gb399 ≠ s_.2)∧(s_.2 ≠ gb399)∧(gb400 ≠ s_.2)∧(s_.2 ≠ gb400)∧(gb409 ≠ s_.2)∧(s_.2 ≠ gb409)∧(gb424 ≠ s_.2)∧(s_.2 ≠ gb424)∧(Below w.heap.size w w')) ?_ ?_
                           rotate_left
                           ·intro hJ9_12
                            refine join_ (σ:=Value) 6 (fl 14 503) (fun s_=>[(104,s_)]) (fun s_ w'=>(w'.cell? ⟨gb400,0,none⟩=some (.slice A393 t393.length c393)∧w'.cell? (ad428.add ((x12_3).toNat * 3))=some (.int .i64 ((rd_T76 t396 x12_3).f0))∧w'.cell? ⟨(ad428.add ((x12_3).toNat * 3)).block,(ad428.add ((x12_3).toNat * 3)).off+1,none⟩=some (.int .i64 ((rd_T76 t396 x12_3).f1))∧w'.cell? ⟨(ad428.add ((x12_3).toNat * 3)).block,(ad428.add ((x12_3).toNat * 3)).off+2,none⟩=some (.int .i64 ((rd_T76 t396 x12_3).f2)))∧(Kd.R (Kd.int .i64) 3 w' w.heap.size (fun k_=>some k_ ≠ (.slice Ao61 y421.length co61:Value).ownBlock) s_ y430)∧(Kd.R (Kd.int .i64) 3 w' w.heap.size (fun k_=>some k_ ≠ (s_:Value).ownBlock) (.slice Ao61 y421.length co61) y421)∧(w'.heap[gb399]?=some (.cells #[.int .i64 t389,.slice A390 t390.length c390] 43 (0,0)))∧(w'.heap[gb400]?=some (.cells #[.slice A393 t393.length c393] 29 (0,0)))∧(w'.heap[gb409]?=some (.cells #[.int .i64 t405,.int .i64 t406,.int .i64 t407] 76 (0,0)))∧(w'.heap[gb424]?=some (.cells #[.slice Ao61 y421.length co61] 29 (0,0)))∧(Below w.heap.size w w')) ?_ ?_
                            rotate_left
                            ·intro hJ0
                             refine join_ (σ:=Value) 6 (fl 14 1014) (fun s_=>[(113,s_)]) (fun s_ w'=>(w'.cell? ⟨gb400,0,none⟩=some (.slice A393 t393.length c393)∧w'.cell? (ad428.add ((x12_3).toNat * 3))=some (.int .i64 ((rd_T76 t396 x12_3).f0))∧w'.cell? ⟨(ad428.add ((x12_3).toNat * 3)).block,(ad428.add ((x12_3).toNat * 3)).off+1,none⟩=some (.int .i64 ((rd_T76 t396 x12_3).f1))∧w'.cell? ⟨(ad428.add ((x12_3).toNat * 3)).block,(ad428.add ((x12_3).toNat * 3)).off+2,none⟩=some (.int .i64 ((rd_T76 t396 x12_3).f2)))∧(Kd.R (Kd.int .i64) 3 w' w.heap.size (fun k_=>some k_ ≠ (.slice Ao61 y421.length co61:Value).ownBlock) s_ y437)∧(Kd.R (Kd.int .i64) 3 w' w.heap.size (fun k_=>some k_ ≠ (s_:Value).ownBlock) (.slice Ao61 y421.length co61) y421)∧(w'.heap[gb399]?=some (.cells #[.int .i64 t389,.slice A390 t390.length c390] 43 (0,0)))∧(w'.heap[gb400]?=some (.cells #[.slice A393 t393.length c393] 29 (0,0)))∧(w'.heap[gb409]?=some (.cells #[.int .i64 t405,.int .i64 t406,.int .i64 t407] 76 (0,0)))∧(w'.heap[gb424]?=some (.cells #[.slice Ao61 y421.length co61] 29 (0,0)))∧(Below w.heap.size w w')) ?_ ?_
                             rotate_left
                             ·intro hJ9
                              refine join_ (σ:=Nat) 6 (fl 14 4598) (fun s_=>[(13,.pointer (some ⟨s_,0,none⟩))]) (fun s_ w'=>(w'.cell? ⟨gb400,0,none⟩=some (.slice A393 t393.length c393)∧w'.cell? (ad428.add ((x12_3).toNat * 3))=some (.int .i64 ((rd_T76 t396 x12_3).f0))∧w'.cell? ⟨(ad428.add ((x12_3).toNat * 3)).block,(ad428.add ((x12_3).toNat * 3)).off+1,none⟩=some (.int .i64 ((rd_T76 t396 x12_3).f1))∧w'.cell? ⟨(ad428.add ((x12_3).toNat * 3)).block,(ad428.add ((x12_3).toNat * 3)).off+2,none⟩=some (.int .i64 ((rd_T76 t396 x12_3).f2)))∧(Kd.R (Kd.int .i64) 3 w' w.heap.size (fun _=>True) (.slice Ao61 y421.length co61) y421)∧(w'.heap[gb399]?=some (.cells #[.int .i64 t389,.slice A390 t390.length c390] 43 (0,0)))∧(w'.heap[gb400]?=some (.cells #[.slice A393 t393.length c393] 29 (0,0)))∧(w'.heap[gb409]?=some (.cells #[.int .i64 t405,.int .i64 t406,.int .i64 t407] 76 (0,0)))∧(w'.heap[gb424]?=some (.cells #[.slice Ao61 y421.length co61] 29 (0,0)))∧(w'.heap[s_]?=some (.cells #[.slice none 0 0] 29 (0,0)))∧(w.heap.size≤s_)∧(w.heap.size≤s_)∧(gb399 ≠ s_)∧(s_ ≠ gb399)∧(gb400 ≠ s_)∧(s_ ≠ gb400)∧(gb409 ≠ s_)∧(s_ ≠ gb409)∧(gb424 ≠ s_)∧(s_ ≠ gb424)∧(Below w.heap.size w w')) ?_ ?_
                              rotate_left
                              ·intro hJ12
                               refine three_ (i:=0) (j:=9) (k:=12) (Ni:=some 104) (Nj:=some 113) (Nk:=some 13) (fl 14 503) (fl 14 1014) (fl 14 4598) rfl rfl rfl rfl rfl rfl (three_of HT_.out (by kernel_rfl)) (by decide) (by decide) (by decide) (fun K hK=>?_) (fun K hK=>?_) (fun K hK=>?_)
                               ·skip
                                refine Kd.R_lit_step (Kd.int .i64) _ 3 ?hg (N:=104) ?hd (xs:=([]:List Int)) (inner:=[]) (ok:=fun _=>True) (okp:=fun _=>True) ?hr ?hp (fun _ hk=>hk) trivial (Below.refl _ _) (Nat.le_refl _) (by simp) ?_;(case hd=>rfl);(case hg=>rfl);(case hr=>first|(go_simp;done)|(go_simp;rfl));(case hp=>exact (Reps.none _ _))
                                intro v431 w91 ho92 hb hg_ hnew_
                                clear hg_ hnew_
                                (first|rw [← Ny430.out] at ho92|(simp only [Int.reduceToNat] at ho92;rw [← Ny430.out] at ho92))
                                have n0_:=Aside0.mk (Kd.R_elder' (rR HO_425000) (Kd.R_base ho92) hb);have n1_:=Aside0.mk (Kd.R_lower (Kd.R_new' ho92 (Kd.R_lt (rR HO_425000))) (below_size be));have n2_:=Aside0.mk (blk_below (bk BK399) hb);have n3_:=Aside0.mk (blk_below (bk BK400) hb);have n4_:=Aside0.mk (blk_below (bk BK409) hb);have n5_:=Aside0.mk (blk_below (bk BK424) hb);have n6_:=bs hb;clear HO_425000 BK399 BK400 BK409 BK424 HB;have HO_425000:=n0_;have HO432:=n1_;have BK399:=n2_;have BK400:=n3_;have BK409:=n4_;have BK424:=n5_;have HB:=n6_;clear n0_ n1_ n2_ n3_ n4_ n5_ n6_ hb ho92
                                refine hK.out _ _ ⟨(blk_cell BK400.out 0).trans rfl,((HB.out.cell (World.block_lt_of_cell? w _ hw436_0)).trans hw436_0),((HB.out.cell (World.block_lt_of_cell? w _ hw436_1)).trans hw436_1),((HB.out.cell (World.block_lt_of_cell? w _ hw436_2)).trans hw436_2)⟩ (fun hHeld=>?_)
                                clear hK K
                                refine no 104 ?_
                                exact norm_ (by first|(simp only [putAll,Act.put,List.setIfInBounds_toArray,List.set_cons_zero,List.set_cons_succ];done)|(simp only [putAll,Act.put,List.setIfInBounds_toArray,List.set_cons_zero,List.set_cons_succ];rfl)) (hJ0 (v431) _ ⟨hHeld,(by (with_reducible repeat (first|apply Kd.R_alloc|apply Kd.R_drewN|apply Kd.R_drew));exact Kd.R_mono HO432.out (fun _ hk=>hk.2)),(by (with_reducible repeat (first|apply Kd.R_alloc|apply Kd.R_drewN|apply Kd.R_drew));exact Kd.R_mono HO_425000.out (fun _ hk=>hk.2)),(bk BK399),(bk BK400),(bk BK409),(bk BK424),be⟩)
                               ·skip
                                refine Kd.R_lit_step (Kd.int .i64) _ 3 ?hg (N:=113) ?hd (xs:=([(rd_T76 t396 x12_3).f0]:List Int)) (inner:=[.int .i64 ((rd_T76 t396 x12_3).f0)]) (ok:=fun _=>True) (okp:=fun _=>True) ?hr ?hp (fun _ hk=>hk) trivial (Below.refl _ _) (Nat.le_refl _) (by simp) ?_;(case hd=>rfl);(case hg=>rfl);(case hr=>first|(go_simp;done)|(go_simp;rfl));(case hp=>exact (Reps.one (show Kd.M (Kd.int .i64) _ _ _ ((rd_T76 t396 x12_3).f0) [.int .i64 ((rd_T76 t396 x12_3).f0)] from rfl) (Reps.none _ _)))
                                intro v438 w91 ho92 hb hg_ hnew_
                                clear hg_ hnew_
                                (first|rw [← Ny437.out] at ho92|(simp only [Int.reduceToNat] at ho92;rw [← Ny437.out] at ho92))
                                have n0_:=Aside0.mk (Kd.R_elder' (rR HO_425000) (Kd.R_base ho92) hb);have n1_:=Aside0.mk (Kd.R_lower (Kd.R_new' ho92 (Kd.R_lt (rR HO_425000))) (below_size be));have n2_:=Aside0.mk (blk_below (bk BK399) hb);have n3_:=Aside0.mk (blk_below (bk BK400) hb);have n4_:=Aside0.mk (blk_below (bk BK409) hb);have n5_:=Aside0.mk (blk_below (bk BK424) hb);have n6_:=bs hb;clear HO_425000 BK399 BK400 BK409 BK424 HB;have HO_425000:=n0_;have HO439:=n1_;have BK399:=n2_;have BK400:=n3_;have BK409:=n4_;have BK424:=n5_;have HB:=n6_;clear n0_ n1_ n2_ n3_ n4_ n5_ n6_ hb ho92
                                refine hK.out _ _ ⟨(blk_cell BK400.out 0).trans rfl,((HB.out.cell (World.block_lt_of_cell? w _ hw436_0)).trans hw436_0),((HB.out.cell (World.block_lt_of_cell? w _ hw436_1)).trans hw436_1),((HB.out.cell (World.block_lt_of_cell? w _ hw436_2)).trans hw436_2)⟩ (fun hHeld=>?_)
                                clear hK K
                                refine no 113 ?_
                                exact norm_ (by first|(simp only [putAll,Act.put,List.setIfInBounds_toArray,List.set_cons_zero,List.set_cons_succ];done)|(simp only [putAll,Act.put,List.setIfInBounds_toArray,List.set_cons_zero,List.set_cons_succ];rfl)) (hJ9 (v438) _ ⟨hHeld,(by (with_reducible repeat (first|apply Kd.R_alloc|apply Kd.R_drewN|apply Kd.R_drew));exact Kd.R_mono HO439.out (fun _ hk=>hk.2)),(by (with_reducible repeat (first|apply Kd.R_alloc|apply Kd.R_drewN|apply Kd.R_drew));exact Kd.R_mono HO_425000.out (fun _ hk=>hk.2)),(bk BK399),(bk BK400),(bk BK409),(bk BK424),be⟩)
                               ·skip
                                refine box_step ?hg (N:=13) ?hd (cs:=#[.slice none 0 0]) (t:=29) ?hr ?_;(case hd=>rfl);(case hg=>rfl);(case hr=>first|(go_simp;done)|(go_simp;rfl))
                                intro gb443 hg w91 hbox hb
                                have n0_:=Aside0.mk (Kd.R_below (rR HO_425000) hb);have n1_:=Aside0.mk (blk_below (bk BK399) hb);have n2_:=Aside0.mk (blk_below (bk BK400) hb);have n3_:=Aside0.mk (blk_below (bk BK409) hb);have n4_:=Aside0.mk (blk_below (bk BK424) hb);have n5_:=bs hb;have n6_:=Aside0.mk (hbox);have n7_:=Aside0.mk ((by rw [hg];exact (below_size be):w.heap.size≤gb443));have n8_:=Aside0.mk ((by rw [hg];exact (below_size be):w.heap.size≤gb443));have n9_:=Aside0.mk ((by rw [hg];exact Nat.ne_of_lt (blk_lt (g:=gb399) (o:=.cells #[.int .i64 t389,.slice A390 t390.length c390] 43 (0,0)) (bk BK399)):gb399 ≠ gb443));have n10_:=Aside0.mk ((by rw [hg];exact Nat.ne_of_gt (blk_lt (g:=gb399) (o:=.cells #[.int .i64 t389,.slice A390 t390.length c390] 43 (0,0)) (bk BK399)):gb443 ≠ gb399));have n11_:=Aside0.mk ((by rw [hg];exact Nat.ne_of_lt (blk_lt (g:=gb400) (o:=.cells #[.slice A393 t393.length c393] 29 (0,0)) (bk BK400)):gb400 ≠ gb443));have n12_:=Aside0.mk ((by rw [hg];exact Nat.ne_of_gt (blk_lt (g:=gb400) (o:=.cells #[.slice A393 t393.length c393] 29 (0,0)) (bk BK400)):gb443 ≠ gb400));have n13_:=Aside0.mk ((by rw [hg];exact Nat.ne_of_lt (blk_lt (g:=gb409) (o:=.cells #[.int .i64 t405,.int .i64 t406,.int .i64 t407] 76 (0,0)) (bk BK409)):gb409 ≠ gb443));have n14_:=Aside0.mk ((by rw [hg];exact Nat.ne_of_gt (blk_lt (g:=gb409) (o:=.cells #[.int .i64 t405,.int .i64 t406,.int .i64 t407] 76 (0,0)) (bk BK409)):gb443 ≠ gb409));have n15_:=Aside0.mk ((by rw [hg];exact Nat.ne_of_lt (blk_lt (g:=gb424) (o:=.cells #[.slice Ao61 y421.length co61] 29 (0,0)) (bk BK424)):gb424 ≠ gb443));have n16_:=Aside0.mk ((by rw [hg];exact Nat.ne_of_gt (blk_lt (g:=gb424) (o:=.cells #[.slice Ao61 y421.length co61] 29 (0,0)) (bk BK424)):gb443 ≠ gb424));clear HO_425000 BK399 BK400 BK409 BK424 HB;have HO_425000:=n0_;have BK399:=n1_;have BK400:=n2_;have BK409:=n3_;have BK424:=n4_;have HB:=n5_;have BK443:=n6_;have GW443:=n7_;have GE443:=n8_;have NB399_443:=n9_;have NB443_399:=n10_;have NB400_443:=n11_;have NB443_400:=n12_;have NB409_443:=n13_;have NB443_409:=n14_;have NB424_443:=n15_;have NB443_424:=n16_;clear n0_ n1_ n2_ n3_ n4_ n5_ n6_ n7_ n8_ n9_ n10_ n11_ n12_ n13_ n14_ n15_ n16_ hb hbox hg
                                refine hK.out _ _ ⟨(blk_cell BK400.out 0).trans rfl,((HB.out.cell (World.block_lt_of_cell? w _ hw436_0)).trans hw436_0),((HB.out.cell (World.block_lt_of_cell? w _ hw436_1)).trans hw436_1),((HB.out.cell (World.block_lt_of_cell? w _ hw436_2)).trans hw436_2)⟩ (fun hHeld=>?_)
                                clear hK K
                                refine no 13 ?_
                                exact norm_ (by first|(simp only [putAll,Act.put,List.setIfInBounds_toArray,List.set_cons_zero,List.set_cons_succ];done)|(simp only [putAll,Act.put,List.setIfInBounds_toArray,List.set_cons_zero,List.set_cons_succ];rfl)) (hJ12 (gb443) _ ⟨hHeld,(rR HO_425000),(bk BK399),(bk BK400),(bk BK409),(bk BK424),(bk BK443),GW443.out,GE443.out,NB399_443.out,NB443_399.out,NB400_443.out,NB443_400.out,NB409_443.out,NB443_409.out,NB424_443.out,NB443_424.out,be⟩)
                              ·skip
                               rintro gb443 w92 ⟨hS_,h0_,h1_,h2_,h3_,h4_,h5_,h6_,h7_,h8_,h9_,h10_,h11_,h12_,h13_,h14_,h15_,h16_⟩
                               have n0_:Aside0 (Kd.R (Kd.int .i64) 3 w92 w.heap.size (fun _=>True) (.slice Ao61 y421.length co61) y421):=⟨h0_⟩
                               have n1_:Aside0 (w92.heap[gb399]?=some (.cells #[.int .i64 t389,.slice A390 t390.length c390] 43 (0,0))):=⟨h1_⟩
                               have n2_:Aside0 (w92.heap[gb400]?=some (.cells #[.slice A393 t393.length c393] 29 (0,0))):=⟨h2_⟩
                               have n3_:Aside0 (w92.heap[gb409]?=some (.cells #[.int .i64 t405,.int .i64 t406,.int .i64 t407] 76 (0,0))):=⟨h3_⟩
                               have n4_:Aside0 (w92.heap[gb424]?=some (.cells #[.slice Ao61 y421.length co61] 29 (0,0))):=⟨h4_⟩
                               have n5_:Aside0 (w92.heap[gb443]?=some (.cells #[.slice none 0 0] 29 (0,0))):=⟨h5_⟩
                               have n6_:Aside0 (w.heap.size≤gb443):=⟨h6_⟩
                               have n7_:Aside0 (w.heap.size≤gb443):=⟨h7_⟩
                               have n8_:Aside0 (gb399 ≠ gb443):=⟨h8_⟩
                               have n9_:Aside0 (gb443 ≠ gb399):=⟨h9_⟩
                               have n10_:Aside0 (gb400 ≠ gb443):=⟨h10_⟩
                               have n11_:Aside0 (gb443 ≠ gb400):=⟨h11_⟩
                               have n12_:Aside0 (gb409 ≠ gb443):=⟨h12_⟩
                               have n13_:Aside0 (gb443 ≠ gb409):=⟨h13_⟩
                               have n14_:Aside0 (gb424 ≠ gb443):=⟨h14_⟩
                               have n15_:Aside0 (gb443 ≠ gb424):=⟨h15_⟩
                               have n16_:Aside0 (Below w.heap.size w w92):=⟨h16_⟩
                               clear HO_425000 BK399 BK400 BK409 BK424 HB h0_ h1_ h2_ h3_ h4_ h5_ h6_ h7_ h8_ h9_ h10_ h11_ h12_ h13_ h14_ h15_ h16_;have HO_425000:=n0_;have BK399:=n1_;have BK400:=n2_;have BK409:=n3_;have BK424:=n4_;have BK443:=n5_;have GW443:=n6_;have GE443:=n7_;have NB399_443:=n8_;have NB443_399:=n9_;have NB400_443:=n10_;have NB443_400:=n11_;have NB409_443:=n12_;have NB443_409:=n13_;have NB424_443:=n14_;have NB443_424:=n15_;have HB:=n16_;clear n0_ n1_ n2_ n3_ n4_ n5_ n6_ n7_ n8_ n9_ n10_ n11_ n12_ n13_ n14_ n15_ n16_
                               have hHeld:w92.cell? ⟨gb400,0,none⟩=some (.slice A393 t393.length c393)∧w92.cell? (ad428.add ((x12_3).toNat * 3))=some (.int .i64 ((rd_T76 t396 x12_3).f0))∧w92.cell? ⟨(ad428.add ((x12_3).toNat * 3)).block,(ad428.add ((x12_3).toNat * 3)).off+1,none⟩=some (.int .i64 ((rd_T76 t396 x12_3).f1))∧w92.cell? ⟨(ad428.add ((x12_3).toNat * 3)).block,(ad428.add ((x12_3).toNat * 3)).off+2,none⟩=some (.int .i64 ((rd_T76 t396 x12_3).f2)):=hS_
                               refine norm_ (a':=?_) ?_ ?_
                               rotate_left
                               ·simp only [putAll,Act.put,List.setIfInBounds_toArray,List.set_cons_zero,List.set_cons_succ]
                                rfl
                               refine two_ (i:=0) (j:=9) (Ni:=some 104) (Nj:=some 113) (fl 14 4599) (fl 14 5110) rfl rfl rfl rfl (two_of HT_.out (by kernel_rfl)) (by decide) (by decide) (fun K hK=>?_) (fun K hK=>?_)
                               ·skip
                                refine Kd.R_lit_step (Kd.int .i64) _ 3 ?hg (N:=104) ?hd (xs:=([]:List Int)) (inner:=[]) (ok:=fun _=>True) (okp:=fun _=>True) ?hr ?hp (fun _ hk=>hk) trivial (Below.refl _ _) (Nat.le_refl _) (by simp) ?_;(case hd=>rfl);(case hg=>rfl);(case hr=>first|(go_simp;done)|(go_simp;rfl));(case hp=>exact (Reps.none _ _))
                                intro v431 w93 ho94 hb hg_ hnew_
                                clear hg_ hnew_
                                (first|rw [← Ny430.out] at ho94|(simp only [Int.reduceToNat] at ho94;rw [← Ny430.out] at ho94))
                                have n0_:=Aside0.mk (Kd.R_elder' (rR HO_425000) (Kd.R_base ho94) hb);have n1_:=Aside0.mk (Kd.R_lower (Kd.R_new' ho94 (Kd.R_lt (rR HO_425000))) (below_size be));have n2_:=Aside0.mk (blk_below (bk BK399) hb);have n3_:=Aside0.mk (blk_below (bk BK400) hb);have n4_:=Aside0.mk (blk_below (bk BK409) hb);have n5_:=Aside0.mk (blk_below (bk BK424) hb);have n6_:=Aside0.mk (blk_below (bk BK443) hb);have n7_:=bs hb;clear HO_425000 BK399 BK400 BK409 BK424 BK443 HB;have HO_425000:=n0_;have HO432:=n1_;have BK399:=n2_;have BK400:=n3_;have BK409:=n4_;have BK424:=n5_;have BK443:=n6_;have HB:=n7_;clear n0_ n1_ n2_ n3_ n4_ n5_ n6_ n7_ hb ho94
                                refine hK.out _ _ ⟨(blk_cell BK400.out 0).trans rfl,((HB.out.cell (World.block_lt_of_cell? w _ hw436_0)).trans hw436_0),((HB.out.cell (World.block_lt_of_cell? w _ hw436_1)).trans hw436_1),((HB.out.cell (World.block_lt_of_cell? w _ hw436_2)).trans hw436_2)⟩ (fun hHeld=>?_)
                                clear hK K
                                refine no 104 ?_
                                exact norm_ (by first|(simp only [putAll,Act.put,List.setIfInBounds_toArray,List.set_cons_zero,List.set_cons_succ];done)|(simp only [putAll,Act.put,List.setIfInBounds_toArray,List.set_cons_zero,List.set_cons_succ];rfl)) (hJ0_12 (v431,gb443) _ ⟨hHeld,(by (with_reducible repeat (first|apply Kd.R_alloc|apply Kd.R_drewN|apply Kd.R_drew));exact Kd.R_mono HO432.out (fun _ hk=>hk.2)),(by (with_reducible repeat (first|apply Kd.R_alloc|apply Kd.R_drewN|apply Kd.R_drew));exact Kd.R_mono HO_425000.out (fun _ hk=>hk.2)),(bk BK399),(bk BK400),(bk BK409),(bk BK424),(bk BK443),GW443.out,GE443.out,NB399_443.out,NB443_399.out,NB400_443.out,NB443_400.out,NB409_443.out,NB443_409.out,NB424_443.out,NB443_424.out,be⟩)
                               ·skip
                                refine Kd.R_lit_step (Kd.int .i64) _ 3 ?hg (N:=113) ?hd (xs:=([(rd_T76 t396 x12_3).f0]:List Int)) (inner:=[.int .i64 ((rd_T76 t396 x12_3).f0)]) (ok:=fun _=>True) (okp:=fun _=>True) ?hr ?hp (fun _ hk=>hk) trivial (Below.refl _ _) (Nat.le_refl _) (by simp) ?_;(case hd=>rfl);(case hg=>rfl);(case hr=>first|(go_simp;done)|(go_simp;rfl));(case hp=>exact (Reps.one (show Kd.M (Kd.int .i64) _ _ _ ((rd_T76 t396 x12_3).f0) [.int .i64 ((rd_T76 t396 x12_3).f0)] from rfl) (Reps.none _ _)))
                                intro v438 w93 ho94 hb hg_ hnew_
                                clear hg_ hnew_
                                (first|rw [← Ny437.out] at ho94|(simp only [Int.reduceToNat] at ho94;rw [← Ny437.out] at ho94))
                                have n0_:=Aside0.mk (Kd.R_elder' (rR HO_425000) (Kd.R_base ho94) hb);have n1_:=Aside0.mk (Kd.R_lower (Kd.R_new' ho94 (Kd.R_lt (rR HO_425000))) (below_size be));have n2_:=Aside0.mk (blk_below (bk BK399) hb);have n3_:=Aside0.mk (blk_below (bk BK400) hb);have n4_:=Aside0.mk (blk_below (bk BK409) hb);have n5_:=Aside0.mk (blk_below (bk BK424) hb);have n6_:=Aside0.mk (blk_below (bk BK443) hb);have n7_:=bs hb;clear HO_425000 BK399 BK400 BK409 BK424 BK443 HB;have HO_425000:=n0_;have HO439:=n1_;have BK399:=n2_;have BK400:=n3_;have BK409:=n4_;have BK424:=n5_;have BK443:=n6_;have HB:=n7_;clear n0_ n1_ n2_ n3_ n4_ n5_ n6_ n7_ hb ho94
                                refine hK.out _ _ ⟨(blk_cell BK400.out 0).trans rfl,((HB.out.cell (World.block_lt_of_cell? w _ hw436_0)).trans hw436_0),((HB.out.cell (World.block_lt_of_cell? w _ hw436_1)).trans hw436_1),((HB.out.cell (World.block_lt_of_cell? w _ hw436_2)).trans hw436_2)⟩ (fun hHeld=>?_)
                                clear hK K
                                refine no 113 ?_
                                exact norm_ (by first|(simp only [putAll,Act.put,List.setIfInBounds_toArray,List.set_cons_zero,List.set_cons_succ];done)|(simp only [putAll,Act.put,List.setIfInBounds_toArray,List.set_cons_zero,List.set_cons_succ];rfl)) (hJ9_12 (v438,gb443) _ ⟨hHeld,(by (with_reducible repeat (first|apply Kd.R_alloc|apply Kd.R_drewN|apply Kd.R_drew));exact Kd.R_mono HO439.out (fun _ hk=>hk.2)),(by (with_reducible repeat (first|apply Kd.R_alloc|apply Kd.R_drewN|apply Kd.R_drew));exact Kd.R_mono HO_425000.out (fun _ hk=>hk.2)),(bk BK399),(bk BK400),(bk BK409),(bk BK424),(bk BK443),GW443.out,GE443.out,NB399_443.out,NB443_399.out,NB400_443.out,NB443_400.out,NB409_443.out,NB443_409.out,NB424_443.out,NB443_424.out,be⟩)
                             ·skip
                              rintro v438 w93 ⟨hS_,h0_,h1_,h2_,h3_,h4_,h5_,h6_⟩
                              have n0_:Aside0 (Kd.R (Kd.int .i64) 3 w93 w.heap.size (fun k_=>some k_ ≠ (.slice Ao61 y421.length co61:Value).ownBlock) v438 y437):=⟨h0_⟩
                              have n1_:Aside0 (Kd.R (Kd.int .i64) 3 w93 w.heap.size (fun k_=>some k_ ≠ (v438:Value).ownBlock) (.slice Ao61 y421.length co61) y421):=⟨h1_⟩
                              have n2_:Aside0 (w93.heap[gb399]?=some (.cells #[.int .i64 t389,.slice A390 t390.length c390] 43 (0,0))):=⟨h2_⟩
                              have n3_:Aside0 (w93.heap[gb400]?=some (.cells #[.slice A393 t393.length c393] 29 (0,0))):=⟨h3_⟩
                              have n4_:Aside0 (w93.heap[gb409]?=some (.cells #[.int .i64 t405,.int .i64 t406,.int .i64 t407] 76 (0,0))):=⟨h4_⟩
                              have n5_:Aside0 (w93.heap[gb424]?=some (.cells #[.slice Ao61 y421.length co61] 29 (0,0))):=⟨h5_⟩
                              have n6_:Aside0 (Below w.heap.size w w93):=⟨h6_⟩
                              clear HO_425000 BK399 BK400 BK409 BK424 HB h0_ h1_ h2_ h3_ h4_ h5_ h6_;have HO439:=n0_;have HO_425000:=n1_;have BK399:=n2_;have BK400:=n3_;have BK409:=n4_;have BK424:=n5_;have HB:=n6_;clear n0_ n1_ n2_ n3_ n4_ n5_ n6_
                              have hHeld:w93.cell? ⟨gb400,0,none⟩=some (.slice A393 t393.length c393)∧w93.cell? (ad428.add ((x12_3).toNat * 3))=some (.int .i64 ((rd_T76 t396 x12_3).f0))∧w93.cell? ⟨(ad428.add ((x12_3).toNat * 3)).block,(ad428.add ((x12_3).toNat * 3)).off+1,none⟩=some (.int .i64 ((rd_T76 t396 x12_3).f1))∧w93.cell? ⟨(ad428.add ((x12_3).toNat * 3)).block,(ad428.add ((x12_3).toNat * 3)).off+2,none⟩=some (.int .i64 ((rd_T76 t396 x12_3).f2)):=hS_
                              refine norm_ (a':=?_) ?_ ?_
                              rotate_left
                              ·simp only [putAll,Act.put,List.setIfInBounds_toArray,List.set_cons_zero,List.set_cons_succ]
                               rfl
                              refine two_ (i:=0) (j:=12) (Ni:=some 104) (Nj:=some 13) (fl 14 1015) (fl 14 5110) rfl rfl rfl rfl (two_of HT_.out (by kernel_rfl)) (by decide) (by decide) (fun K hK=>?_) (fun K hK=>?_)
                              ·skip
                               refine Kd.R_lit_step (Kd.int .i64) _ 3 ?hg (N:=104) ?hd (xs:=([]:List Int)) (inner:=[]) (ok:=fun _=>True) (okp:=fun _=>True) ?hr ?hp (fun _ hk=>hk) trivial (Below.refl _ _) (Nat.le_refl _) (by simp) ?_;(case hd=>rfl);(case hg=>rfl);(case hr=>first|(go_simp;done)|(go_simp;rfl));(case hp=>exact (Reps.none _ _))
                               intro v431 w94 ho95 hb hg_ hnew_
                               clear hg_ hnew_
                               (first|rw [← Ny430.out] at ho95|(simp only [Int.reduceToNat] at ho95;rw [← Ny430.out] at ho95))
                               have n0_:=Aside0.mk (Kd.R_elder' (rR HO_425000) (Kd.R_base ho95) hb);have n1_:=Aside0.mk (Kd.R_elder' (rR HO439) (Kd.R_base ho95) hb);have n2_:=Aside0.mk (Kd.R_lower (Kd.R_new' (Kd.R_new' ho95 (Kd.R_lt (rR HO_425000))) (Kd.R_lt (rR HO439))) (below_size be));have n3_:=Aside0.mk (blk_below (bk BK399) hb);have n4_:=Aside0.mk (blk_below (bk BK400) hb);have n5_:=Aside0.mk (blk_below (bk BK409) hb);have n6_:=Aside0.mk (blk_below (bk BK424) hb);have n7_:=bs hb;clear HO_425000 HO439 BK399 BK400 BK409 BK424 HB;have HO_425000:=n0_;have HO439:=n1_;have HO432:=n2_;have BK399:=n3_;have BK400:=n4_;have BK409:=n5_;have BK424:=n6_;have HB:=n7_;clear n0_ n1_ n2_ n3_ n4_ n5_ n6_ n7_ hb ho95
                               refine hK.out _ _ ⟨(blk_cell BK400.out 0).trans rfl,((HB.out.cell (World.block_lt_of_cell? w _ hw436_0)).trans hw436_0),((HB.out.cell (World.block_lt_of_cell? w _ hw436_1)).trans hw436_1),((HB.out.cell (World.block_lt_of_cell? w _ hw436_2)).trans hw436_2)⟩ (fun hHeld=>?_)
                               clear hK K
                               refine no 104 ?_
                               exact norm_ (by first|(simp only [putAll,Act.put,List.setIfInBounds_toArray,List.set_cons_zero,List.set_cons_succ];done)|(simp only [putAll,Act.put,List.setIfInBounds_toArray,List.set_cons_zero,List.set_cons_succ];rfl)) (hJ0_9 (v431,v438) _ ⟨hHeld,(by (with_reducible repeat (first|apply Kd.R_alloc|apply Kd.R_drewN|apply Kd.R_drew));exact Kd.R_mono HO432.out (fun _ hk=>⟨hk.2,hk.1.2⟩)),(by (with_reducible repeat (first|apply Kd.R_alloc|apply Kd.R_drewN|apply Kd.R_drew));exact Kd.R_mono HO439.out (fun _ hk=>⟨hk.2,hk.1⟩)),(by (with_reducible repeat (first|apply Kd.R_alloc|apply Kd.R_drewN|apply Kd.R_drew));exact Kd.R_mono HO_425000.out (fun _ hk=>⟨hk.2,hk.1⟩)),(bk BK399),(bk BK400),(bk BK409),(bk BK424),be⟩)
                              ·skip
                               refine box_step ?hg (N:=13) ?hd (cs:=#[.slice none 0 0]) (t:=29) ?hr ?_;(case hd=>rfl);(case hg=>rfl);(case hr=>first|(go_simp;done)|(go_simp;rfl))
                               intro gb443 hg w94 hbox hb
                               have n0_:=Aside0.mk (Kd.R_below (rR HO_425000) hb);have n1_:=Aside0.mk (Kd.R_below (rR HO439) hb);have n2_:=Aside0.mk (blk_below (bk BK399) hb);have n3_:=Aside0.mk (blk_below (bk BK400) hb);have n4_:=Aside0.mk (blk_below (bk BK409) hb);have n5_:=Aside0.mk (blk_below (bk BK424) hb);have n6_:=bs hb;have n7_:=Aside0.mk (hbox);have n8_:=Aside0.mk ((by rw [hg];exact (below_size be):w.heap.size≤gb443));have n9_:=Aside0.mk ((by rw [hg];exact (below_size be):w.heap.size≤gb443));have n10_:=Aside0.mk ((by rw [hg];exact Nat.ne_of_lt (blk_lt (g:=gb399) (o:=.cells #[.int .i64 t389,.slice A390 t390.length c390] 43 (0,0)) (bk BK399)):gb399 ≠ gb443));have n11_:=Aside0.mk ((by rw [hg];exact Nat.ne_of_gt (blk_lt (g:=gb399) (o:=.cells #[.int .i64 t389,.slice A390 t390.length c390] 43 (0,0)) (bk BK399)):gb443 ≠ gb399));have n12_:=Aside0.mk ((by rw [hg];exact Nat.ne_of_lt (blk_lt (g:=gb400) (o:=.cells #[.slice A393 t393.length c393] 29 (0,0)) (bk BK400)):gb400 ≠ gb443));have n13_:=Aside0.mk ((by rw [hg];exact Nat.ne_of_gt (blk_lt (g:=gb400) (o:=.cells #[.slice A393 t393.length c393] 29 (0,0)) (bk BK400)):gb443 ≠ gb400));have n14_:=Aside0.mk ((by rw [hg];exact Nat.ne_of_lt (blk_lt (g:=gb409) (o:=.cells #[.int .i64 t405,.int .i64 t406,.int .i64 t407] 76 (0,0)) (bk BK409)):gb409 ≠ gb443));have n15_:=Aside0.mk ((by rw [hg];exact Nat.ne_of_gt (blk_lt (g:=gb409) (o:=.cells #[.int .i64 t405,.int .i64 t406,.int .i64 t407] 76 (0,0)) (bk BK409)):gb443 ≠ gb409));have n16_:=Aside0.mk ((by rw [hg];exact Nat.ne_of_lt (blk_lt (g:=gb424) (o:=.cells #[.slice Ao61 y421.length co61] 29 (0,0)) (bk BK424)):gb424 ≠ gb443));have n17_:=Aside0.mk ((by rw [hg];exact Nat.ne_of_gt (blk_lt (g:=gb424) (o:=.cells #[.slice Ao61 y421.length co61] 29 (0,0)) (bk BK424)):gb443 ≠ gb424));clear HO_425000 HO439 BK399 BK400 BK409 BK424 HB;have HO_425000:=n0_;have HO439:=n1_;have BK399:=n2_;have BK400:=n3_;have BK409:=n4_;have BK424:=n5_;have HB:=n6_;have BK443:=n7_;have GW443:=n8_;have GE443:=n9_;have NB399_443:=n10_;have NB443_399:=n11_;have NB400_443:=n12_;have NB443_400:=n13_;have NB409_443:=n14_;have NB443_409:=n15_;have NB424_443:=n16_;have NB443_424:=n17_;clear n0_ n1_ n2_ n3_ n4_ n5_ n6_ n7_ n8_ n9_ n10_ n11_ n12_ n13_ n14_ n15_ n16_ n17_ hb hbox hg
                               refine hK.out _ _ ⟨(blk_cell BK400.out 0).trans rfl,((HB.out.cell (World.block_lt_of_cell? w _ hw436_0)).trans hw436_0),((HB.out.cell (World.block_lt_of_cell? w _ hw436_1)).trans hw436_1),((HB.out.cell (World.block_lt_of_cell? w _ hw436_2)).trans hw436_2)⟩ (fun hHeld=>?_)
                               clear hK K
                               refine no 13 ?_
                               exact norm_ (by first|(simp only [putAll,Act.put,List.setIfInBounds_toArray,List.set_cons_zero,List.set_cons_succ];done)|(simp only [putAll,Act.put,List.setIfInBounds_toArray,List.set_cons_zero,List.set_cons_succ];rfl)) (hJ9_12 (v438,gb443) _ ⟨hHeld,(rR HO439),(rR HO_425000),(bk BK399),(bk BK400),(bk BK409),(bk BK424),(bk BK443),GW443.out,GE443.out,NB399_443.out,NB443_399.out,NB400_443.out,NB443_400.out,NB409_443.out,NB443_409.out,NB424_443.out,NB443_424.out,be⟩)
                            ·skip
                             rintro v431 w93 ⟨hS_,h0_,h1_,h2_,h3_,h4_,h5_,h6_⟩
                             have n0_:Aside0 (Kd.R (Kd.int .i64) 3 w93 w.heap.size (fun k_=>some k_ ≠ (.slice Ao61 y421.length co61:Value).ownBlock) v431 y430):=⟨h0_⟩
                             have n1_:Aside0 (Kd.R (Kd.int .i64) 3 w93 w.heap.size (fun k_=>some k_ ≠ (v431:Value).ownBlock) (.slice Ao61 y421.length co61) y421):=⟨h1_⟩
                             have n2_:Aside0 (w93.heap[gb399]?=some (.cells #[.int .i64 t389,.slice A390 t390.length c390] 43 (0,0))):=⟨h2_⟩
                             have n3_:Aside0 (w93.heap[gb400]?=some (.cells #[.slice A393 t393.length c393] 29 (0,0))):=⟨h3_⟩
                             have n4_:Aside0 (w93.heap[gb409]?=some (.cells #[.int .i64 t405,.int .i64 t406,.int .i64 t407] 76 (0,0))):=⟨h4_⟩
                             have n5_:Aside0 (w93.heap[gb424]?=some (.cells #[.slice Ao61 y421.length co61] 29 (0,0))):=⟨h5_⟩
                             have n6_:Aside0 (Below w.heap.size w w93):=⟨h6_⟩
                             clear HO_425000 BK399 BK400 BK409 BK424 HB h0_ h1_ h2_ h3_ h4_ h5_ h6_;have HO432:=n0_;have HO_425000:=n1_;have BK399:=n2_;have BK400:=n3_;have BK409:=n4_;have BK424:=n5_;have HB:=n6_;clear n0_ n1_ n2_ n3_ n4_ n5_ n6_
                             have hHeld:w93.cell? ⟨gb400,0,none⟩=some (.slice A393 t393.length c393)∧w93.cell? (ad428.add ((x12_3).toNat * 3))=some (.int .i64 ((rd_T76 t396 x12_3).f0))∧w93.cell? ⟨(ad428.add ((x12_3).toNat * 3)).block,(ad428.add ((x12_3).toNat * 3)).off+1,none⟩=some (.int .i64 ((rd_T76 t396 x12_3).f1))∧w93.cell? ⟨(ad428.add ((x12_3).toNat * 3)).block,(ad428.add ((x12_3).toNat * 3)).off+2,none⟩=some (.int .i64 ((rd_T76 t396 x12_3).f2)):=hS_
                             refine norm_ (a':=?_) ?_ ?_
                             rotate_left
                             ·simp only [putAll,Act.put,List.setIfInBounds_toArray,List.set_cons_zero,List.set_cons_succ]
                              rfl
                             refine three_ (i:=3) (j:=9) (k:=12) (Ni:=some 107) (Nj:=some 113) (Nk:=some 13) (fl 14 511) (fl 14 1015) (fl 14 4599) rfl rfl rfl rfl rfl rfl (three_of HT_.out (by kernel_rfl)) (by decide) (by decide) (by decide) (fun K hK=>?_) (fun K hK=>?_) (fun K hK=>?_)
                             ·skip
                              refine Kd.R_append_rows_step (Kd.int .i64) (w0:=w) w.heap.size (by rfl) (.tmp 104) (.tmp 106) 22 3 (.int .i64 0) 8 rfl Try.underlying22 info3 rfl (by decide) (by omega) v431 y430 t393 _ _ _ (fun k_=>some k_ ≠ (.slice Ao61 y421.length co61:Value).ownBlock) (fun _=>False) rfl rfl ?aO ?aR (fun _ _ h=>h) (fun _ h=>h.elim) ?aF ?aB ?aS ?aL ?_
                              (case aR=>exact rC HR393)
                              (case aB=>exact be)
                              (case aF=>exact (fun k_ hk=>Kd.fresh' (Kd.R_lt (rR HO_425000)) k_ hk))
                              (case aO=>exact (rR HO432))
                              (case aS=>exact (below_size be))
                              (case aL=>have:=LMc84.out;omega)
                              intro v434 w94 ho hb hg hat
                              rw [← Ny433.out] at ho
                              have n0_:=Aside0.mk (Kd.R_after (ok:=(fun _=>True)) (by (with_reducible repeat (first|apply Kd.R_alloc|apply Kd.R_drewN|apply Kd.R_drew));exact Kd.R_mono HO_425000.out (fun _ hk=>⟨trivial,hk⟩)) hg hat);have n1_:=Aside0.mk (blk_grown (g:=gb399) (o:=.cells #[.int .i64 t389,.slice A390 t390.length c390] 43 (0,0)) (bk BK399) hg (Kd.R_ne HO432.out BK399.out (by decide)));have n2_:=Aside0.mk (blk_grown (g:=gb400) (o:=.cells #[.slice A393 t393.length c393] 29 (0,0)) (bk BK400) hg (Kd.R_ne HO432.out BK400.out (by decide)));have n3_:=Aside0.mk (blk_grown (g:=gb409) (o:=.cells #[.int .i64 t405,.int .i64 t406,.int .i64 t407] 76 (0,0)) (bk BK409) hg (Kd.R_ne HO432.out BK409.out (by decide)));have n4_:=Aside0.mk (blk_grown (g:=gb424) (o:=.cells #[.slice Ao61 y421.length co61] 29 (0,0)) (bk BK424) hg (Kd.R_ne HO432.out BK424.out (by decide)));have n5_:=Aside0.mk (hb);have n6_:=Aside0.mk (ho);clear HO_425000 BK399 BK400 BK409 BK424 HB HO432;have HO_425000:=n0_;have BK399:=n1_;have BK400:=n2_;have BK409:=n3_;have BK424:=n4_;have HB:=n5_;have HO435:=n6_;clear n0_ n1_ n2_ n3_ n4_ n5_ n6_ ho hb hg hat
                              refine hK.out _ _ ⟨(blk_cell BK400.out 0).trans rfl,((HB.out.cell (World.block_lt_of_cell? w _ hw436_0)).trans hw436_0),((HB.out.cell (World.block_lt_of_cell? w _ hw436_1)).trans hw436_1),((HB.out.cell (World.block_lt_of_cell? w _ hw436_2)).trans hw436_2)⟩ (fun hHeld=>?_)
                              clear hK K
                              refine no 107 ?_
                              exact norm_ (by first|(simp only [putAll,Act.put,List.setIfInBounds_toArray,List.set_cons_zero,List.set_cons_succ];done)|(simp only [putAll,Act.put,List.setIfInBounds_toArray,List.set_cons_zero,List.set_cons_succ];rfl)) (hJ0_3 (v431,v434) _ ⟨hHeld,(rR HO435),(by (with_reducible repeat (first|apply Kd.R_alloc|apply Kd.R_drewN|apply Kd.R_drew));exact Kd.R_mono HO_425000.out (fun _ hk=>hk.2)),(bk BK399),(bk BK400),(bk BK409),(bk BK424),be⟩)
                             ·skip
                              refine Kd.R_lit_step (Kd.int .i64) _ 3 ?hg (N:=113) ?hd (xs:=([(rd_T76 t396 x12_3).f0]:List Int)) (inner:=[.int .i64 ((rd_T76 t396 x12_3).f0)]) (ok:=fun _=>True) (okp:=fun _=>True) ?hr ?hp (fun _ hk=>hk) trivial (Below.refl _ _) (Nat.le_refl _) (by simp) ?_;(case hd=>rfl);(case hg=>rfl);(case hr=>first|(go_simp;done)|(go_simp;rfl));(case hp=>exact (Reps.one (show Kd.M (Kd.int .i64) _ _ _ ((rd_T76 t396 x12_3).f0) [.int .i64 ((rd_T76 t396 x12_3).f0)] from rfl) (Reps.none _ _)))
                              intro v438 w94 ho95 hb hg_ hnew_
                              clear hg_ hnew_
                              (first|rw [← Ny437.out] at ho95|(simp only [Int.reduceToNat] at ho95;rw [← Ny437.out] at ho95))
                              have n0_:=Aside0.mk (Kd.R_elder' (rR HO_425000) (Kd.R_base ho95) hb);have n1_:=Aside0.mk (Kd.R_elder' (rR HO432) (Kd.R_base ho95) hb);have n2_:=Aside0.mk (Kd.R_lower (Kd.R_new' (Kd.R_new' ho95 (Kd.R_lt (rR HO_425000))) (Kd.R_lt (rR HO432))) (below_size be));have n3_:=Aside0.mk (blk_below (bk BK399) hb);have n4_:=Aside0.mk (blk_below (bk BK400) hb);have n5_:=Aside0.mk (blk_below (bk BK409) hb);have n6_:=Aside0.mk (blk_below (bk BK424) hb);have n7_:=bs hb;clear HO_425000 HO432 BK399 BK400 BK409 BK424 HB;have HO_425000:=n0_;have HO432:=n1_;have HO439:=n2_;have BK399:=n3_;have BK400:=n4_;have BK409:=n5_;have BK424:=n6_;have HB:=n7_;clear n0_ n1_ n2_ n3_ n4_ n5_ n6_ n7_ hb ho95
                              refine hK.out _ _ ⟨(blk_cell BK400.out 0).trans rfl,((HB.out.cell (World.block_lt_of_cell? w _ hw436_0)).trans hw436_0),((HB.out.cell (World.block_lt_of_cell? w _ hw436_1)).trans hw436_1),((HB.out.cell (World.block_lt_of_cell? w _ hw436_2)).trans hw436_2)⟩ (fun hHeld=>?_)
                              clear hK K
                              refine no 113 ?_
                              exact norm_ (by first|(simp only [putAll,Act.put,List.setIfInBounds_toArray,List.set_cons_zero,List.set_cons_succ];done)|(simp only [putAll,Act.put,List.setIfInBounds_toArray,List.set_cons_zero,List.set_cons_succ];rfl)) (hJ0_9 (v431,v438) _ ⟨hHeld,(by (with_reducible repeat (first|apply Kd.R_alloc|apply Kd.R_drewN|apply Kd.R_drew));exact Kd.R_mono HO432.out (fun _ hk=>⟨hk.2,hk.1⟩)),(by (with_reducible repeat (first|apply Kd.R_alloc|apply Kd.R_drewN|apply Kd.R_drew));exact Kd.R_mono HO439.out (fun _ hk=>⟨hk.2,hk.1.2⟩)),(rR HO_425000),(bk BK399),(bk BK400),(bk BK409),(bk BK424),be⟩)
                             ·skip
                              refine box_step ?hg (N:=13) ?hd (cs:=#[.slice none 0 0]) (t:=29) ?hr ?_;(case hd=>rfl);(case hg=>rfl);(case hr=>first|(go_simp;done)|(go_simp;rfl))
                              intro gb443 hg w94 hbox hb
                              have n0_:=Aside0.mk (Kd.R_below (rR HO_425000) hb);have n1_:=Aside0.mk (Kd.R_below (rR HO432) hb);have n2_:=Aside0.mk (blk_below (bk BK399) hb);have n3_:=Aside0.mk (blk_below (bk BK400) hb);have n4_:=Aside0.mk (blk_below (bk BK409) hb);have n5_:=Aside0.mk (blk_below (bk BK424) hb);have n6_:=bs hb;have n7_:=Aside0.mk (hbox);have n8_:=Aside0.mk ((by rw [hg];exact (below_size be):w.heap.size≤gb443));have n9_:=Aside0.mk ((by rw [hg];exact (below_size be):w.heap.size≤gb443));have n10_:=Aside0.mk ((by rw [hg];exact Nat.ne_of_lt (blk_lt (g:=gb399) (o:=.cells #[.int .i64 t389,.slice A390 t390.length c390] 43 (0,0)) (bk BK399)):gb399 ≠ gb443));have n11_:=Aside0.mk ((by rw [hg];exact Nat.ne_of_gt (blk_lt (g:=gb399) (o:=.cells #[.int .i64 t389,.slice A390 t390.length c390] 43 (0,0)) (bk BK399)):gb443 ≠ gb399));have n12_:=Aside0.mk ((by rw [hg];exact Nat.ne_of_lt (blk_lt (g:=gb400) (o:=.cells #[.slice A393 t393.length c393] 29 (0,0)) (bk BK400)):gb400 ≠ gb443));have n13_:=Aside0.mk ((by rw [hg];exact Nat.ne_of_gt (blk_lt (g:=gb400) (o:=.cells #[.slice A393 t393.length c393] 29 (0,0)) (bk BK400)):gb443 ≠ gb400));have n14_:=Aside0.mk ((by rw [hg];exact Nat.ne_of_lt (blk_lt (g:=gb409) (o:=.cells #[.int .i64 t405,.int .i64 t406,.int .i64 t407] 76 (0,0)) (bk BK409)):gb409 ≠ gb443));have n15_:=Aside0.mk ((by rw [hg];exact Nat.ne_of_gt (blk_lt (g:=gb409) (o:=.cells #[.int .i64 t405,.int .i64 t406,.int .i64 t407] 76 (0,0)) (bk BK409)):gb443 ≠ gb409));have n16_:=Aside0.mk ((by rw [hg];exact Nat.ne_of_lt (blk_lt (g:=gb424) (o:=.cells #[.slice Ao61 y421.length co61] 29 (0,0)) (bk BK424)):gb424 ≠ gb443));have n17_:=Aside0.mk ((by rw [hg];exact Nat.ne_of_gt (blk_lt (g:=gb424) (o:=.cells #[.slice Ao61 y421.length co61] 29 (0,0)) (bk BK424)):gb443 ≠ gb424));clear HO_425000 HO432 BK399 BK400 BK409 BK424 HB;have HO_425000:=n0_;have HO432:=n1_;have BK399:=n2_;have BK400:=n3_;have BK409:=n4_;have BK424:=n5_;have HB:=n6_;have BK443:=n7_;have GW443:=n8_;have GE443:=n9_;have NB399_443:=n10_;have NB443_399:=n11_;have NB400_443:=n12_;have NB443_400:=n13_;have NB409_443:=n14_;have NB443_409:=n15_;have NB424_443:=n16_;have NB443_424:=n17_;clear n0_ n1_ n2_ n3_ n4_ n5_ n6_ n7_ n8_ n9_ n10_ n11_ n12_ n13_ n14_ n15_ n16_ n17_ hb hbox hg
                              refine hK.out _ _ ⟨(blk_cell BK400.out 0).trans rfl,((HB.out.cell (World.block_lt_of_cell? w _ hw436_0)).trans hw436_0),((HB.out.cell (World.block_lt_of_cell? w _ hw436_1)).trans hw436_1),((HB.out.cell (World.block_lt_of_cell? w _ hw436_2)).trans hw436_2)⟩ (fun hHeld=>?_)
                              clear hK K
                              refine no 13 ?_
                              exact norm_ (by first|(simp only [putAll,Act.put,List.setIfInBounds_toArray,List.set_cons_zero,List.set_cons_succ];done)|(simp only [putAll,Act.put,List.setIfInBounds_toArray,List.set_cons_zero,List.set_cons_succ];rfl)) (hJ0_12 (v431,gb443) _ ⟨hHeld,(rR HO432),(rR HO_425000),(bk BK399),(bk BK400),(bk BK409),(bk BK424),(bk BK443),GW443.out,GE443.out,NB399_443.out,NB443_399.out,NB400_443.out,NB443_400.out,NB409_443.out,NB443_409.out,NB424_443.out,NB443_424.out,be⟩)
                           ·skip
                            rintro ⟨v438,gb443⟩ w94 ⟨hS_,h0_,h1_,h2_,h3_,h4_,h5_,h6_,h7_,h8_,h9_,h10_,h11_,h12_,h13_,h14_,h15_,h16_,h17_⟩
                            have n0_:Aside0 (Kd.R (Kd.int .i64) 3 w94 w.heap.size (fun k_=>some k_ ≠ (.slice Ao61 y421.length co61:Value).ownBlock) v438 y437):=⟨h0_⟩
                            have n1_:Aside0 (Kd.R (Kd.int .i64) 3 w94 w.heap.size (fun k_=>some k_ ≠ (v438:Value).ownBlock) (.slice Ao61 y421.length co61) y421):=⟨h1_⟩
                            have n2_:Aside0 (w94.heap[gb399]?=some (.cells #[.int .i64 t389,.slice A390 t390.length c390] 43 (0,0))):=⟨h2_⟩
                            have n3_:Aside0 (w94.heap[gb400]?=some (.cells #[.slice A393 t393.length c393] 29 (0,0))):=⟨h3_⟩
                            have n4_:Aside0 (w94.heap[gb409]?=some (.cells #[.int .i64 t405,.int .i64 t406,.int .i64 t407] 76 (0,0))):=⟨h4_⟩
                            have n5_:Aside0 (w94.heap[gb424]?=some (.cells #[.slice Ao61 y421.length co61] 29 (0,0))):=⟨h5_⟩
                            have n6_:Aside0 (w94.heap[gb443]?=some (.cells #[.slice none 0 0] 29 (0,0))):=⟨h6_⟩
                            have n7_:Aside0 (w.heap.size≤gb443):=⟨h7_⟩
                            have n8_:Aside0 (w.heap.size≤gb443):=⟨h8_⟩
                            have n9_:Aside0 (gb399 ≠ gb443):=⟨h9_⟩
                            have n10_:Aside0 (gb443 ≠ gb399):=⟨h10_⟩
                            have n11_:Aside0 (gb400 ≠ gb443):=⟨h11_⟩
                            have n12_:Aside0 (gb443 ≠ gb400):=⟨h12_⟩
                            have n13_:Aside0 (gb409 ≠ gb443):=⟨h13_⟩
                            have n14_:Aside0 (gb443 ≠ gb409):=⟨h14_⟩
                            have n15_:Aside0 (gb424 ≠ gb443):=⟨h15_⟩
                            have n16_:Aside0 (gb443 ≠ gb424):=⟨h16_⟩
                            have n17_:Aside0 (Below w.heap.size w w94):=⟨h17_⟩
                            clear HO_425000 BK399 BK400 BK409 BK424 HB h0_ h1_ h2_ h3_ h4_ h5_ h6_ h7_ h8_ h9_ h10_ h11_ h12_ h13_ h14_ h15_ h16_ h17_;have HO439:=n0_;have HO_425000:=n1_;have BK399:=n2_;have BK400:=n3_;have BK409:=n4_;have BK424:=n5_;have BK443:=n6_;have GW443:=n7_;have GE443:=n8_;have NB399_443:=n9_;have NB443_399:=n10_;have NB400_443:=n11_;have NB443_400:=n12_;have NB409_443:=n13_;have NB443_409:=n14_;have NB424_443:=n15_;have NB443_424:=n16_;have HB:=n17_;clear n0_ n1_ n2_ n3_ n4_ n5_ n6_ n7_ n8_ n9_ n10_ n11_ n12_ n13_ n14_ n15_ n16_ n17_
                            have hHeld:w94.cell? ⟨gb400,0,none⟩=some (.slice A393 t393.length c393)∧w94.cell? (ad428.add ((x12_3).toNat * 3))=some (.int .i64 ((rd_T76 t396 x12_3).f0))∧w94.cell? ⟨(ad428.add ((x12_3).toNat * 3)).block,(ad428.add ((x12_3).toNat * 3)).off+1,none⟩=some (.int .i64 ((rd_T76 t396 x12_3).f1))∧w94.cell? ⟨(ad428.add ((x12_3).toNat * 3)).block,(ad428.add ((x12_3).toNat * 3)).off+2,none⟩=some (.int .i64 ((rd_T76 t396 x12_3).f2)):=hS_
                            refine norm_ (a':=?_) ?_ ?_
                            rotate_left
                            ·simp only [putAll,Act.put,List.setIfInBounds_toArray,List.set_cons_zero,List.set_cons_succ]
                             rfl
                            refine ot 0 (some 104) (fl 14 5111) HT_ (fun K hK=>?_)
                            refine Kd.R_lit_step (Kd.int .i64) _ 3 ?hg (N:=104) ?hd (xs:=([]:List Int)) (inner:=[]) (ok:=fun _=>True) (okp:=fun _=>True) ?hr ?hp (fun _ hk=>hk) trivial (Below.refl _ _) (Nat.le_refl _) (by simp) ?_;(case hd=>rfl);(case hg=>rfl);(case hr=>first|(go_simp;done)|(go_simp;rfl));(case hp=>exact (Reps.none _ _))
                            intro v431 w95 ho96 hb hg_ hnew_
                            clear hg_ hnew_
                            (first|rw [← Ny430.out] at ho96|(simp only [Int.reduceToNat] at ho96;rw [← Ny430.out] at ho96))
                            have n0_:=Aside0.mk (Kd.R_elder' (rR HO_425000) (Kd.R_base ho96) hb);have n1_:=Aside0.mk (Kd.R_elder' (rR HO439) (Kd.R_base ho96) hb);have n2_:=Aside0.mk (Kd.R_lower (Kd.R_new' (Kd.R_new' ho96 (Kd.R_lt (rR HO_425000))) (Kd.R_lt (rR HO439))) (below_size be));have n3_:=Aside0.mk (blk_below (bk BK399) hb);have n4_:=Aside0.mk (blk_below (bk BK400) hb);have n5_:=Aside0.mk (blk_below (bk BK409) hb);have n6_:=Aside0.mk (blk_below (bk BK424) hb);have n7_:=Aside0.mk (blk_below (bk BK443) hb);have n8_:=bs hb;clear HO_425000 HO439 BK399 BK400 BK409 BK424 BK443 HB;have HO_425000:=n0_;have HO439:=n1_;have HO432:=n2_;have BK399:=n3_;have BK400:=n4_;have BK409:=n5_;have BK424:=n6_;have BK443:=n7_;have HB:=n8_;clear n0_ n1_ n2_ n3_ n4_ n5_ n6_ n7_ n8_ hb ho96
                            refine hK.out _ _ ⟨(blk_cell BK400.out 0).trans rfl,((HB.out.cell (World.block_lt_of_cell? w _ hw436_0)).trans hw436_0),((HB.out.cell (World.block_lt_of_cell? w _ hw436_1)).trans hw436_1),((HB.out.cell (World.block_lt_of_cell? w _ hw436_2)).trans hw436_2)⟩ (fun hHeld=>?_)
                            clear hK K
                            refine no 104 ?_
                            exact norm_ (by first|(simp only [putAll,Act.put,List.setIfInBounds_toArray,List.set_cons_zero,List.set_cons_succ];done)|(simp only [putAll,Act.put,List.setIfInBounds_toArray,List.set_cons_zero,List.set_cons_succ];rfl)) (hJ0_9_12 (v431,v438,gb443) _ ⟨hHeld,(by (with_reducible repeat (first|apply Kd.R_alloc|apply Kd.R_drewN|apply Kd.R_drew));exact Kd.R_mono HO432.out (fun _ hk=>⟨hk.2,hk.1.2⟩)),(by (with_reducible repeat (first|apply Kd.R_alloc|apply Kd.R_drewN|apply Kd.R_drew));exact Kd.R_mono HO439.out (fun _ hk=>⟨hk.2,hk.1⟩)),(by (with_reducible repeat (first|apply Kd.R_alloc|apply Kd.R_drewN|apply Kd.R_drew));exact Kd.R_mono HO_425000.out (fun _ hk=>⟨hk.2,hk.1⟩)),(bk BK399),(bk BK400),(bk BK409),(bk BK424),(bk BK443),GW443.out,GE443.out,NB399_443.out,NB443_399.out,NB400_443.out,NB443_400.out,NB409_443.out,NB443_409.out,NB424_443.out,NB443_424.out,be⟩)
                          ·skip
                           rintro ⟨v431,gb443⟩ w94 ⟨hS_,h0_,h1_,h2_,h3_,h4_,h5_,h6_,h7_,h8_,h9_,h10_,h11_,h12_,h13_,h14_,h15_,h16_,h17_⟩
                           have n0_:Aside0 (Kd.R (Kd.int .i64) 3 w94 w.heap.size (fun k_=>some k_ ≠ (.slice Ao61 y421.length co61:Value).ownBlock) v431 y430):=⟨h0_⟩
                           have n1_:Aside0 (Kd.R (Kd.int .i64) 3 w94 w.heap.size (fun k_=>some k_ ≠ (v431:Value).ownBlock) (.slice Ao61 y421.length co61) y421):=⟨h1_⟩
                           have n2_:Aside0 (w94.heap[gb399]?=some (.cells #[.int .i64 t389,.slice A390 t390.length c390] 43 (0,0))):=⟨h2_⟩
                           have n3_:Aside0 (w94.heap[gb400]?=some (.cells #[.slice A393 t393.length c393] 29 (0,0))):=⟨h3_⟩
                           have n4_:Aside0 (w94.heap[gb409]?=some (.cells #[.int .i64 t405,.int .i64 t406,.int .i64 t407] 76 (0,0))):=⟨h4_⟩
                           have n5_:Aside0 (w94.heap[gb424]?=some (.cells #[.slice Ao61 y421.length co61] 29 (0,0))):=⟨h5_⟩
                           have n6_:Aside0 (w94.heap[gb443]?=some (.cells #[.slice none 0 0] 29 (0,0))):=⟨h6_⟩
                           have n7_:Aside0 (w.heap.size≤gb443):=⟨h7_⟩
                           have n8_:Aside0 (w.heap.size≤gb443):=⟨h8_⟩
                           have n9_:Aside0 (gb399 ≠ gb443):=⟨h9_⟩
                           have n10_:Aside0 (gb443 ≠ gb399):=⟨h10_⟩
                           have n11_:Aside0 (gb400 ≠ gb443):=⟨h11_⟩
                           have n12_:Aside0 (gb443 ≠ gb400):=⟨h12_⟩
                           have n13_:Aside0 (gb409 ≠ gb443):=⟨h13_⟩
                           have n14_:Aside0 (gb443 ≠ gb409):=⟨h14_⟩
                           have n15_:Aside0 (gb424 ≠ gb443):=⟨h15_⟩
                           have n16_:Aside0 (gb443 ≠ gb424):=⟨h16_⟩
                           have n17_:Aside0 (Below w.heap.size w w94):=⟨h17_⟩
                           clear HO_425000 BK399 BK400 BK409 BK424 HB h0_ h1_ h2_ h3_ h4_ h5_ h6_ h7_ h8_ h9_ h10_ h11_ h12_ h13_ h14_ h15_ h16_ h17_;have HO432:=n0_;have HO_425000:=n1_;have BK399:=n2_;have BK400:=n3_;have BK409:=n4_;have BK424:=n5_;have BK443:=n6_;have GW443:=n7_;have GE443:=n8_;have NB399_443:=n9_;have NB443_399:=n10_;have NB400_443:=n11_;have NB443_400:=n12_;have NB409_443:=n13_;have NB443_409:=n14_;have NB424_443:=n15_;have NB443_424:=n16_;have HB:=n17_;clear n0_ n1_ n2_ n3_ n4_ n5_ n6_ n7_ n8_ n9_ n10_ n11_ n12_ n13_ n14_ n15_ n16_ n17_
                           have hHeld:w94.cell? ⟨gb400,0,none⟩=some (.slice A393 t393.length c393)∧w94.cell? (ad428.add ((x12_3).toNat * 3))=some (.int .i64 ((rd_T76 t396 x12_3).f0))∧w94.cell? ⟨(ad428.add ((x12_3).toNat * 3)).block,(ad428.add ((x12_3).toNat * 3)).off+1,none⟩=some (.int .i64 ((rd_T76 t396 x12_3).f1))∧w94.cell? ⟨(ad428.add ((x12_3).toNat * 3)).block,(ad428.add ((x12_3).toNat * 3)).off+2,none⟩=some (.int .i64 ((rd_T76 t396 x12_3).f2)):=hS_
                           refine norm_ (a':=?_) ?_ ?_
                           rotate_left
                           ·simp only [putAll,Act.put,List.setIfInBounds_toArray,List.set_cons_zero,List.set_cons_succ]
                            rfl
                           refine two_ (i:=3) (j:=9) (Ni:=some 107) (Nj:=some 113) (fl 14 4607) (fl 14 5111) rfl rfl rfl rfl (two_of HT_.out (by kernel_rfl)) (by decide) (by decide) (fun K hK=>?_) (fun K hK=>?_)
                           ·skip
                            refine Kd.R_append_rows_step (Kd.int .i64) (w0:=w) w.heap.size (by rfl) (.tmp 104) (.tmp 106) 22 3 (.int .i64 0) 8 rfl Try.underlying22 info3 rfl (by decide) (by omega) v431 y430 t393 _ _ _ (fun k_=>some k_ ≠ (.slice Ao61 y421.length co61:Value).ownBlock) (fun _=>False) rfl rfl ?aO ?aR (fun _ _ h=>h) (fun _ h=>h.elim) ?aF ?aB ?aS ?aL ?_
                            (case aR=>exact rC HR393)
                            (case aB=>exact be)
                            (case aF=>exact (fun k_ hk=>Kd.fresh' (Kd.R_lt (rR HO_425000)) k_ hk))
                            (case aO=>exact (rR HO432))
                            (case aS=>exact (below_size be))
                            (case aL=>have:=LMc84.out;omega)
                            intro v434 w95 ho hb hg hat
                            rw [← Ny433.out] at ho
                            have n0_:=Aside0.mk (Kd.R_after (ok:=(fun _=>True)) (by (with_reducible repeat (first|apply Kd.R_alloc|apply Kd.R_drewN|apply Kd.R_drew));exact Kd.R_mono HO_425000.out (fun _ hk=>⟨trivial,hk⟩)) hg hat);have n1_:=Aside0.mk (blk_grown (g:=gb399) (o:=.cells #[.int .i64 t389,.slice A390 t390.length c390] 43 (0,0)) (bk BK399) hg (Kd.R_ne HO432.out BK399.out (by decide)));have n2_:=Aside0.mk (blk_grown (g:=gb400) (o:=.cells #[.slice A393 t393.length c393] 29 (0,0)) (bk BK400) hg (Kd.R_ne HO432.out BK400.out (by decide)));have n3_:=Aside0.mk (blk_grown (g:=gb409) (o:=.cells #[.int .i64 t405,.int .i64 t406,.int .i64 t407] 76 (0,0)) (bk BK409) hg (Kd.R_ne HO432.out BK409.out (by decide)));have n4_:=Aside0.mk (blk_grown (g:=gb424) (o:=.cells #[.slice Ao61 y421.length co61] 29 (0,0)) (bk BK424) hg (Kd.R_ne HO432.out BK424.out (by decide)));have n5_:=Aside0.mk (blk_grown (g:=gb443) (o:=.cells #[.slice none 0 0] 29 (0,0)) (bk BK443) hg (Kd.R_ne HO432.out BK443.out (by decide)));have n6_:=Aside0.mk (hb);have n7_:=Aside0.mk (ho);clear HO_425000 BK399 BK400 BK409 BK424 BK443 HB HO432;have HO_425000:=n0_;have BK399:=n1_;have BK400:=n2_;have BK409:=n3_;have BK424:=n4_;have BK443:=n5_;have HB:=n6_;have HO435:=n7_;clear n0_ n1_ n2_ n3_ n4_ n5_ n6_ n7_ ho hb hg hat
                            refine hK.out _ _ ⟨(blk_cell BK400.out 0).trans rfl,((HB.out.cell (World.block_lt_of_cell? w _ hw436_0)).trans hw436_0),((HB.out.cell (World.block_lt_of_cell? w _ hw436_1)).trans hw436_1),((HB.out.cell (World.block_lt_of_cell? w _ hw436_2)).trans hw436_2)⟩ (fun hHeld=>?_)
                            clear hK K
                            refine no 107 ?_
                            exact norm_ (by first|(simp only [putAll,Act.put,List.setIfInBounds_toArray,List.set_cons_zero,List.set_cons_succ];done)|(simp only [putAll,Act.put,List.setIfInBounds_toArray,List.set_cons_zero,List.set_cons_succ];rfl)) (hJ0_3_12 (v431,v434,gb443) _ ⟨hHeld,(rR HO435),(by (with_reducible repeat (first|apply Kd.R_alloc|apply Kd.R_drewN|apply Kd.R_drew));exact Kd.R_mono HO_425000.out (fun _ hk=>hk.2)),(bk BK399),(bk BK400),(bk BK409),(bk BK424),(bk BK443),GW443.out,GE443.out,NB399_443.out,NB443_399.out,NB400_443.out,NB443_400.out,NB409_443.out,NB443_409.out,NB424_443.out,NB443_424.out,be⟩)
                           ·skip
                            refine Kd.R_lit_step (Kd.int .i64) _ 3 ?hg (N:=113) ?hd (xs:=([(rd_T76 t396 x12_3).f0]:List Int)) (inner:=[.int .i64 ((rd_T76 t396 x12_3).f0)]) (ok:=fun _=>True) (okp:=fun _=>True) ?hr ?hp (fun _ hk=>hk) trivial (Below.refl _ _) (Nat.le_refl _) (by simp) ?_;(case hd=>rfl);(case hg=>rfl);(case hr=>first|(go_simp;done)|(go_simp;rfl));(case hp=>exact (Reps.one (show Kd.M (Kd.int .i64) _ _ _ ((rd_T76 t396 x12_3).f0) [.int .i64 ((rd_T76 t396 x12_3).f0)] from rfl) (Reps.none _ _)))
                            intro v438 w95 ho96 hb hg_ hnew_
                            clear hg_ hnew_
                            (first|rw [← Ny437.out] at ho96|(simp only [Int.reduceToNat] at ho96;rw [← Ny437.out] at ho96))
                            have n0_:=Aside0.mk (Kd.R_elder' (rR HO_425000) (Kd.R_base ho96) hb);have n1_:=Aside0.mk (Kd.R_elder' (rR HO432) (Kd.R_base ho96) hb);have n2_:=Aside0.mk (Kd.R_lower (Kd.R_new' (Kd.R_new' ho96 (Kd.R_lt (rR HO_425000))) (Kd.R_lt (rR HO432))) (below_size be));have n3_:=Aside0.mk (blk_below (bk BK399) hb);have n4_:=Aside0.mk (blk_below (bk BK400) hb);have n5_:=Aside0.mk (blk_below (bk BK409) hb);have n6_:=Aside0.mk (blk_below (bk BK424) hb);have n7_:=Aside0.mk (blk_below (bk BK443) hb);have n8_:=bs hb;clear HO_425000 HO432 BK399 BK400 BK409 BK424 BK443 HB;have HO_425000:=n0_;have HO432:=n1_;have HO439:=n2_;have BK399:=n3_;have BK400:=n4_;have BK409:=n5_;have BK424:=n6_;have BK443:=n7_;have HB:=n8_;clear n0_ n1_ n2_ n3_ n4_ n5_ n6_ n7_ n8_ hb ho96
                            refine hK.out _ _ ⟨(blk_cell BK400.out 0).trans rfl,((HB.out.cell (World.block_lt_of_cell? w _ hw436_0)).trans hw436_0),((HB.out.cell (World.block_lt_of_cell? w _ hw436_1)).trans hw436_1),((HB.out.cell (World.block_lt_of_cell? w _ hw436_2)).trans hw436_2)⟩ (fun hHeld=>?_)
                            clear hK K
                            refine no 113 ?_
                            exact norm_ (by first|(simp only [putAll,Act.put,List.setIfInBounds_toArray,List.set_cons_zero,List.set_cons_succ];done)|(simp only [putAll,Act.put,List.setIfInBounds_toArray,List.set_cons_zero,List.set_cons_succ];rfl)) (hJ0_9_12 (v431,v438,gb443) _ ⟨hHeld,(by (with_reducible repeat (first|apply Kd.R_alloc|apply Kd.R_drewN|apply Kd.R_drew));exact Kd.R_mono HO432.out (fun _ hk=>⟨hk.2,hk.1⟩)),(by (with_reducible repeat (first|apply Kd.R_alloc|apply Kd.R_drewN|apply Kd.R_drew));exact Kd.R_mono HO439.out (fun _ hk=>⟨hk.2,hk.1.2⟩)),(rR HO_425000),(bk BK399),(bk BK400),(bk BK409),(bk BK424),(bk BK443),GW443.out,GE443.out,NB399_443.out,NB443_399.out,NB400_443.out,NB443_400.out,NB409_443.out,NB443_409.out,NB424_443.out,NB443_424.out,be⟩)
                         ·skip
                          rintro ⟨v431,v438⟩ w95 ⟨hS_,h0_,h1_,h2_,h3_,h4_,h5_,h6_,h7_⟩
                          have n0_:Aside0 (Kd.R (Kd.int .i64) 3 w95 w.heap.size (fun k_=>some k_ ≠ (v438:Value).ownBlock∧some k_ ≠ (.slice Ao61 y421.length co61:Value).ownBlock) v431 y430):=⟨h0_⟩
                          have n1_:Aside0 (Kd.R (Kd.int .i64) 3 w95 w.heap.size (fun k_=>some k_ ≠ (v431:Value).ownBlock∧some k_ ≠ (.slice Ao61 y421.length co61:Value).ownBlock) v438 y437):=⟨h1_⟩
                          have n2_:Aside0 (Kd.R (Kd.int .i64) 3 w95 w.heap.size (fun k_=>some k_ ≠ (v431:Value).ownBlock∧some k_ ≠ (v438:Value).ownBlock) (.slice Ao61 y421.length co61) y421):=⟨h2_⟩
                          have n3_:Aside0 (w95.heap[gb399]?=some (.cells #[.int .i64 t389,.slice A390 t390.length c390] 43 (0,0))):=⟨h3_⟩
                          have n4_:Aside0 (w95.heap[gb400]?=some (.cells #[.slice A393 t393.length c393] 29 (0,0))):=⟨h4_⟩
                          have n5_:Aside0 (w95.heap[gb409]?=some (.cells #[.int .i64 t405,.int .i64 t406,.int .i64 t407] 76 (0,0))):=⟨h5_⟩
                          have n6_:Aside0 (w95.heap[gb424]?=some (.cells #[.slice Ao61 y421.length co61] 29 (0,0))):=⟨h6_⟩
                          have n7_:Aside0 (Below w.heap.size w w95):=⟨h7_⟩
                          clear HO_425000 BK399 BK400 BK409 BK424 HB h0_ h1_ h2_ h3_ h4_ h5_ h6_ h7_;have HO432:=n0_;have HO439:=n1_;have HO_425000:=n2_;have BK399:=n3_;have BK400:=n4_;have BK409:=n5_;have BK424:=n6_;have HB:=n7_;clear n0_ n1_ n2_ n3_ n4_ n5_ n6_ n7_
                          have hHeld:w95.cell? ⟨gb400,0,none⟩=some (.slice A393 t393.length c393)∧w95.cell? (ad428.add ((x12_3).toNat * 3))=some (.int .i64 ((rd_T76 t396 x12_3).f0))∧w95.cell? ⟨(ad428.add ((x12_3).toNat * 3)).block,(ad428.add ((x12_3).toNat * 3)).off+1,none⟩=some (.int .i64 ((rd_T76 t396 x12_3).f1))∧w95.cell? ⟨(ad428.add ((x12_3).toNat * 3)).block,(ad428.add ((x12_3).toNat * 3)).off+2,none⟩=some (.int .i64 ((rd_T76 t396 x12_3).f2)):=hS_
                          refine norm_ (a':=?_) ?_ ?_
                          rotate_left
                          ·simp only [putAll,Act.put,List.setIfInBounds_toArray,List.set_cons_zero,List.set_cons_succ]
                           rfl
                          refine two_ (i:=3) (j:=12) (Ni:=some 107) (Nj:=some 13) (fl 14 1023) (fl 14 5111) rfl rfl rfl rfl (two_of HT_.out (by kernel_rfl)) (by decide) (by decide) (fun K hK=>?_) (fun K hK=>?_)
                          ·skip
                           refine Kd.R_append_rows_step (Kd.int .i64) (w0:=w) w.heap.size (by rfl) (.tmp 104) (.tmp 106) 22 3 (.int .i64 0) 8 rfl Try.underlying22 info3 rfl (by decide) (by omega) v431 y430 t393 _ _ _ (fun k_=>some k_ ≠ (.slice Ao61 y421.length co61:Value).ownBlock∧some k_ ≠ (v438:Value).ownBlock) (fun _=>False) rfl rfl ?aO ?aR (fun _ _ h=>h) (fun _ h=>h.elim) ?aF ?aB ?aS ?aL ?_
                           (case aR=>exact rC HR393)
                           (case aB=>exact be)
                           (case aF=>exact (fun k_ hk=>⟨Kd.fresh' (Kd.R_lt (rR HO_425000)) k_ hk,Kd.fresh' (Kd.R_lt (rR HO439)) k_ hk⟩))
                           (case aO=>exact (by (with_reducible repeat (first|apply Kd.R_alloc|apply Kd.R_drewN|apply Kd.R_drew));exact Kd.R_mono HO432.out (fun _ hk=>⟨hk.2,hk.1⟩)))
                           (case aS=>exact (below_size be))
                           (case aL=>have:=LMc84.out;omega)
                           intro v434 w96 ho hb hg hat
                           rw [← Ny433.out] at ho
                           have n0_:=Aside0.mk (Kd.R_after (ok:=(fun k_=>some k_ ≠ (v438:Value).ownBlock)) (by (with_reducible repeat (first|apply Kd.R_alloc|apply Kd.R_drewN|apply Kd.R_drew));exact Kd.R_mono HO_425000.out (fun _ hk=>⟨hk.2,hk.1⟩)) hg hat);have n1_:=Aside0.mk (blk_grown (g:=gb399) (o:=.cells #[.int .i64 t389,.slice A390 t390.length c390] 43 (0,0)) (bk BK399) hg (Kd.R_ne HO432.out BK399.out (by decide)));have n2_:=Aside0.mk (blk_grown (g:=gb400) (o:=.cells #[.slice A393 t393.length c393] 29 (0,0)) (bk BK400) hg (Kd.R_ne HO432.out BK400.out (by decide)));have n3_:=Aside0.mk (blk_grown (g:=gb409) (o:=.cells #[.int .i64 t405,.int .i64 t406,.int .i64 t407] 76 (0,0)) (bk BK409) hg (Kd.R_ne HO432.out BK409.out (by decide)));have n4_:=Aside0.mk (blk_grown (g:=gb424) (o:=.cells #[.slice Ao61 y421.length co61] 29 (0,0)) (bk BK424) hg (Kd.R_ne HO432.out BK424.out (by decide)));have n5_:=Aside0.mk (Kd.R_after (ok:=(fun k_=>some k_ ≠ (.slice Ao61 y421.length co61:Value).ownBlock)) (by (with_reducible repeat (first|apply Kd.R_alloc|apply Kd.R_drewN|apply Kd.R_drew));exact Kd.R_mono HO439.out (fun _ hk=>⟨hk.2,hk.1⟩)) hg hat);have n6_:=Aside0.mk (hb);have n7_:=Aside0.mk (ho);clear HO_425000 BK399 BK400 BK409 BK424 HO439 HB HO432;have HO_425000:=n0_;have BK399:=n1_;have BK400:=n2_;have BK409:=n3_;have BK424:=n4_;have HO439:=n5_;have HB:=n6_;have HO435:=n7_;clear n0_ n1_ n2_ n3_ n4_ n5_ n6_ n7_ ho hb hg hat
                           refine hK.out _ _ ⟨(blk_cell BK400.out 0).trans rfl,((HB.out.cell (World.block_lt_of_cell? w _ hw436_0)).trans hw436_0),((HB.out.cell (World.block_lt_of_cell? w _ hw436_1)).trans hw436_1),((HB.out.cell (World.block_lt_of_cell? w _ hw436_2)).trans hw436_2)⟩ (fun hHeld=>?_)
                           clear hK K
                           refine no 107 ?_
                           exact norm_ (by first|(simp only [putAll,Act.put,List.setIfInBounds_toArray,List.set_cons_zero,List.set_cons_succ];done)|(simp only [putAll,Act.put,List.setIfInBounds_toArray,List.set_cons_zero,List.set_cons_succ];rfl)) (hJ0_3_9 (v431,v434,v438) _ ⟨hHeld,(by (with_reducible repeat (first|apply Kd.R_alloc|apply Kd.R_drewN|apply Kd.R_drew));exact Kd.R_mono HO435.out (fun _ hk=>⟨hk.2,hk.1⟩)),(by (with_reducible repeat (first|apply Kd.R_alloc|apply Kd.R_drewN|apply Kd.R_drew));exact Kd.R_mono HO439.out (fun _ hk=>⟨hk.2,hk.1⟩)),(by (with_reducible repeat (first|apply Kd.R_alloc|apply Kd.R_drewN|apply Kd.R_drew));exact Kd.R_mono HO_425000.out (fun _ hk=>⟨hk.2,hk.1⟩)),(bk BK399),(bk BK400),(bk BK409),(bk BK424),be⟩)
                          ·skip
                           refine box_step ?hg (N:=13) ?hd (cs:=#[.slice none 0 0]) (t:=29) ?hr ?_;(case hd=>rfl);(case hg=>rfl);(case hr=>first|(go_simp;done)|(go_simp;rfl))
                           intro gb443 hg w96 hbox hb
                           have n0_:=Aside0.mk (Kd.R_below (rR HO_425000) hb);have n1_:=Aside0.mk (Kd.R_below (rR HO432) hb);have n2_:=Aside0.mk (Kd.R_below (rR HO439) hb);have n3_:=Aside0.mk (blk_below (bk BK399) hb);have n4_:=Aside0.mk (blk_below (bk BK400) hb);have n5_:=Aside0.mk (blk_below (bk BK409) hb);have n6_:=Aside0.mk (blk_below (bk BK424) hb);have n7_:=bs hb;have n8_:=Aside0.mk (hbox);have n9_:=Aside0.mk ((by rw [hg];exact (below_size be):w.heap.size≤gb443));have n10_:=Aside0.mk ((by rw [hg];exact (below_size be):w.heap.size≤gb443));have n11_:=Aside0.mk ((by rw [hg];exact Nat.ne_of_lt (blk_lt (g:=gb399) (o:=.cells #[.int .i64 t389,.slice A390 t390.length c390] 43 (0,0)) (bk BK399)):gb399 ≠ gb443));have n12_:=Aside0.mk ((by rw [hg];exact Nat.ne_of_gt (blk_lt (g:=gb399) (o:=.cells #[.int .i64 t389,.slice A390 t390.length c390] 43 (0,0)) (bk BK399)):gb443 ≠ gb399));have n13_:=Aside0.mk ((by rw [hg];exact Nat.ne_of_lt (blk_lt (g:=gb400) (o:=.cells #[.slice A393 t393.length c393] 29 (0,0)) (bk BK400)):gb400 ≠ gb443));have n14_:=Aside0.mk ((by rw [hg];exact Nat.ne_of_gt (blk_lt (g:=gb400) (o:=.cells #[.slice A393 t393.length c393] 29 (0,0)) (bk BK400)):gb443 ≠ gb400));have n15_:=Aside0.mk ((by rw [hg];exact Nat.ne_of_lt (blk_lt (g:=gb409) (o:=.cells #[.int .i64 t405,.int .i64 t406,.int .i64 t407] 76 (0,0)) (bk BK409)):gb409 ≠ gb443));have n16_:=Aside0.mk ((by rw [hg];exact Nat.ne_of_gt (blk_lt (g:=gb409) (o:=.cells #[.int .i64 t405,.int .i64 t406,.int .i64 t407] 76 (0,0)) (bk BK409)):gb443 ≠ gb409));have n17_:=Aside0.mk ((by rw [hg];exact Nat.ne_of_lt (blk_lt (g:=gb424) (o:=.cells #[.slice Ao61 y421.length co61] 29 (0,0)) (bk BK424)):gb424 ≠ gb443));have n18_:=Aside0.mk ((by rw [hg];exact Nat.ne_of_gt (blk_lt (g:=gb424) (o:=.cells #[.slice Ao61 y421.length co61] 29 (0,0)) (bk BK424)):gb443 ≠ gb424));clear HO_425000 HO432 HO439 BK399 BK400 BK409 BK424 HB;have HO_425000:=n0_;have HO432:=n1_;have HO439:=n2_;have BK399:=n3_;have BK400:=n4_;have BK409:=n5_;have BK424:=n6_;have HB:=n7_;have BK443:=n8_;have GW443:=n9_;have GE443:=n10_;have NB399_443:=n11_;have NB443_399:=n12_;have NB400_443:=n13_;have NB443_400:=n14_;have NB409_443:=n15_;have NB443_409:=n16_;have NB424_443:=n17_;have NB443_424:=n18_;clear n0_ n1_ n2_ n3_ n4_ n5_ n6_ n7_ n8_ n9_ n10_ n11_ n12_ n13_ n14_ n15_ n16_ n17_ n18_ hb hbox hg
                           refine hK.out _ _ ⟨(blk_cell BK400.out 0).trans rfl,((HB.out.cell (World.block_lt_of_cell? w _ hw436_0)).trans hw436_0),((HB.out.cell (World.block_lt_of_cell? w _ hw436_1)).trans hw436_1),((HB.out.cell (World.block_lt_of_cell? w _ hw436_2)).trans hw436_2)⟩ (fun hHeld=>?_)
                           clear hK K
                           refine no 13 ?_
                           exact norm_ (by first|(simp only [putAll,Act.put,List.setIfInBounds_toArray,List.set_cons_zero,List.set_cons_succ];done)|(simp only [putAll,Act.put,List.setIfInBounds_toArray,List.set_cons_zero,List.set_cons_succ];rfl)) (hJ0_9_12 (v431,v438,gb443) _ ⟨hHeld,(rR HO432),(rR HO439),(rR HO_425000),(bk BK399),(bk BK400),(bk BK409),(bk BK424),(bk BK443),GW443.out,GE443.out,NB399_443.out,NB443_399.out,NB400_443.out,NB443_400.out,NB409_443.out,NB443_409.out,NB424_443.out,NB443_424.out,be⟩)
                        ·skip
                         rintro ⟨v431,v434⟩ w94 ⟨hS_,h0_,h1_,h2_,h3_,h4_,h5_,h6_⟩
                         have n0_:Aside0 (Kd.R (Kd.int .i64) 3 w94 w.heap.size (fun k_=>some k_ ≠ (.slice Ao61 y421.length co61:Value).ownBlock) v434 y433):=⟨h0_⟩
                         have n1_:Aside0 (Kd.R (Kd.int .i64) 3 w94 w.heap.size (fun k_=>some k_ ≠ (v434:Value).ownBlock) (.slice Ao61 y421.length co61) y421):=⟨h1_⟩
                         have n2_:Aside0 (w94.heap[gb399]?=some (.cells #[.int .i64 t389,.slice A390 t390.length c390] 43 (0,0))):=⟨h2_⟩
                         have n3_:Aside0 (w94.heap[gb400]?=some (.cells #[.slice A393 t393.length c393] 29 (0,0))):=⟨h3_⟩
                         have n4_:Aside0 (w94.heap[gb409]?=some (.cells #[.int .i64 t405,.int .i64 t406,.int .i64 t407] 76 (0,0))):=⟨h4_⟩
                         have n5_:Aside0 (w94.heap[gb424]?=some (.cells #[.slice Ao61 y421.length co61] 29 (0,0))):=⟨h5_⟩
                         have n6_:Aside0 (Below w.heap.size w w94):=⟨h6_⟩
                         clear HO_425000 BK399 BK400 BK409 BK424 HB h0_ h1_ h2_ h3_ h4_ h5_ h6_;have HO435:=n0_;have HO_425000:=n1_;have BK399:=n2_;have BK400:=n3_;have BK409:=n4_;have BK424:=n5_;have HB:=n6_;clear n0_ n1_ n2_ n3_ n4_ n5_ n6_
                         have hHeld:w94.cell? ⟨gb400,0,none⟩=some (.slice A393 t393.length c393)∧w94.cell? (ad428.add ((x12_3).toNat * 3))=some (.int .i64 ((rd_T76 t396 x12_3).f0))∧w94.cell? ⟨(ad428.add ((x12_3).toNat * 3)).block,(ad428.add ((x12_3).toNat * 3)).off+1,none⟩=some (.int .i64 ((rd_T76 t396 x12_3).f1))∧w94.cell? ⟨(ad428.add ((x12_3).toNat * 3)).block,(ad428.add ((x12_3).toNat * 3)).off+2,none⟩=some (.int .i64 ((rd_T76 t396 x12_3).f2)):=hS_
                         refine norm_ (a':=?_) ?_ ?_
                         rotate_left
                         ·simp only [putAll,Act.put,List.setIfInBounds_toArray,List.set_cons_zero,List.set_cons_succ]
                          rfl
                         refine two_ (i:=9) (j:=12) (Ni:=some 113) (Nj:=some 13) (fl 14 1023) (fl 14 4607) rfl rfl rfl rfl (two_of HT_.out (by kernel_rfl)) (by decide) (by decide) (fun K hK=>?_) (fun K hK=>?_)
                         ·skip
                          refine Kd.R_lit_step (Kd.int .i64) _ 3 ?hg (N:=113) ?hd (xs:=([(rd_T76 t396 x12_3).f0]:List Int)) (inner:=[.int .i64 ((rd_T76 t396 x12_3).f0)]) (ok:=fun _=>True) (okp:=fun _=>True) ?hr ?hp (fun _ hk=>hk) trivial (Below.refl _ _) (Nat.le_refl _) (by simp) ?_;(case hd=>rfl);(case hg=>rfl);(case hr=>first|(go_simp;done)|(go_simp;rfl));(case hp=>exact (Reps.one (show Kd.M (Kd.int .i64) _ _ _ ((rd_T76 t396 x12_3).f0) [.int .i64 ((rd_T76 t396 x12_3).f0)] from rfl) (Reps.none _ _)))
                          intro v438 w95 ho96 hb hg_ hnew_
                          clear hg_ hnew_
                          (first|rw [← Ny437.out] at ho96|(simp only [Int.reduceToNat] at ho96;rw [← Ny437.out] at ho96))
                          have n0_:=Aside0.mk (Kd.R_elder' (rR HO_425000) (Kd.R_base ho96) hb);have n1_:=Aside0.mk (Kd.R_elder' (rR HO435) (Kd.R_base ho96) hb);have n2_:=Aside0.mk (Kd.R_lower (Kd.R_new' (Kd.R_new' ho96 (Kd.R_lt (rR HO_425000))) (Kd.R_lt (rR HO435))) (below_size be));have n3_:=Aside0.mk (blk_below (bk BK399) hb);have n4_:=Aside0.mk (blk_below (bk BK400) hb);have n5_:=Aside0.mk (blk_below (bk BK409) hb);have n6_:=Aside0.mk (blk_below (bk BK424) hb);have n7_:=bs hb;clear HO_425000 HO435 BK399 BK400 BK409 BK424 HB;have HO_425000:=n0_;have HO435:=n1_;have HO439:=n2_;have BK399:=n3_;have BK400:=n4_;have BK409:=n5_;have BK424:=n6_;have HB:=n7_;clear n0_ n1_ n2_ n3_ n4_ n5_ n6_ n7_ hb ho96
                          refine hK.out _ _ ⟨(blk_cell BK400.out 0).trans rfl,((HB.out.cell (World.block_lt_of_cell? w _ hw436_0)).trans hw436_0),((HB.out.cell (World.block_lt_of_cell? w _ hw436_1)).trans hw436_1),((HB.out.cell (World.block_lt_of_cell? w _ hw436_2)).trans hw436_2)⟩ (fun hHeld=>?_)
                          clear hK K
                          refine no 113 ?_
                          exact norm_ (by first|(simp only [putAll,Act.put,List.setIfInBounds_toArray,List.set_cons_zero,List.set_cons_succ];done)|(simp only [putAll,Act.put,List.setIfInBounds_toArray,List.set_cons_zero,List.set_cons_succ];rfl)) (hJ0_3_9 (v431,v434,v438) _ ⟨hHeld,(by (with_reducible repeat (first|apply Kd.R_alloc|apply Kd.R_drewN|apply Kd.R_drew));exact Kd.R_mono HO435.out (fun _ hk=>⟨hk.2,hk.1⟩)),(by (with_reducible repeat (first|apply Kd.R_alloc|apply Kd.R_drewN|apply Kd.R_drew));exact Kd.R_mono HO439.out (fun _ hk=>⟨hk.2,hk.1.2⟩)),(rR HO_425000),(bk BK399),(bk BK400),(bk BK409),(bk BK424),be⟩)
                         ·skip
                          refine box_step ?hg (N:=13) ?hd (cs:=#[.slice none 0 0]) (t:=29) ?hr ?_;(case hd=>rfl);(case hg=>rfl);(case hr=>first|(go_simp;done)|(go_simp;rfl))
                          intro gb443 hg w95 hbox hb
                          have n0_:=Aside0.mk (Kd.R_below (rR HO_425000) hb);have n1_:=Aside0.mk (Kd.R_below (rR HO435) hb);have n2_:=Aside0.mk (blk_below (bk BK399) hb);have n3_:=Aside0.mk (blk_below (bk BK400) hb);have n4_:=Aside0.mk (blk_below (bk BK409) hb);have n5_:=Aside0.mk (blk_below (bk BK424) hb);have n6_:=bs hb;have n7_:=Aside0.mk (hbox);have n8_:=Aside0.mk ((by rw [hg];exact (below_size be):w.heap.size≤gb443));have n9_:=Aside0.mk ((by rw [hg];exact (below_size be):w.heap.size≤gb443));have n10_:=Aside0.mk ((by rw [hg];exact Nat.ne_of_lt (blk_lt (g:=gb399) (o:=.cells #[.int .i64 t389,.slice A390 t390.length c390] 43 (0,0)) (bk BK399)):gb399 ≠ gb443));have n11_:=Aside0.mk ((by rw [hg];exact Nat.ne_of_gt (blk_lt (g:=gb399) (o:=.cells #[.int .i64 t389,.slice A390 t390.length c390] 43 (0,0)) (bk BK399)):gb443 ≠ gb399));have n12_:=Aside0.mk ((by rw [hg];exact Nat.ne_of_lt (blk_lt (g:=gb400) (o:=.cells #[.slice A393 t393.length c393] 29 (0,0)) (bk BK400)):gb400 ≠ gb443));have n13_:=Aside0.mk ((by rw [hg];exact Nat.ne_of_gt (blk_lt (g:=gb400) (o:=.cells #[.slice A393 t393.length c393] 29 (0,0)) (bk BK400)):gb443 ≠ gb400));have n14_:=Aside0.mk ((by rw [hg];exact Nat.ne_of_lt (blk_lt (g:=gb409) (o:=.cells #[.int .i64 t405,.int .i64 t406,.int .i64 t407] 76 (0,0)) (bk BK409)):gb409 ≠ gb443));have n15_:=Aside0.mk ((by rw [hg];exact Nat.ne_of_gt (blk_lt (g:=gb409) (o:=.cells #[.int .i64 t405,.int .i64 t406,.int .i64 t407] 76 (0,0)) (bk BK409)):gb443 ≠ gb409));have n16_:=Aside0.mk ((by rw [hg];exact Nat.ne_of_lt (blk_lt (g:=gb424) (o:=.cells #[.slice Ao61 y421.length co61] 29 (0,0)) (bk BK424)):gb424 ≠ gb443));have n17_:=Aside0.mk ((by rw [hg];exact Nat.ne_of_gt (blk_lt (g:=gb424) (o:=.cells #[.slice Ao61 y421.length co61] 29 (0,0)) (bk BK424)):gb443 ≠ gb424));clear HO_425000 HO435 BK399 BK400 BK409 BK424 HB;have HO_425000:=n0_;have HO435:=n1_;have BK399:=n2_;have BK400:=n3_;have BK409:=n4_;have BK424:=n5_;have HB:=n6_;have BK443:=n7_;have GW443:=n8_;have GE443:=n9_;have NB399_443:=n10_;have NB443_399:=n11_;have NB400_443:=n12_;have NB443_400:=n13_;have NB409_443:=n14_;have NB443_409:=n15_;have NB424_443:=n16_;have NB443_424:=n17_;clear n0_ n1_ n2_ n3_ n4_ n5_ n6_ n7_ n8_ n9_ n10_ n11_ n12_ n13_ n14_ n15_ n16_ n17_ hb hbox hg
                          refine hK.out _ _ ⟨(blk_cell BK400.out 0).trans rfl,((HB.out.cell (World.block_lt_of_cell? w _ hw436_0)).trans hw436_0),((HB.out.cell (World.block_lt_of_cell? w _ hw436_1)).trans hw436_1),((HB.out.cell (World.block_lt_of_cell? w _ hw436_2)).trans hw436_2)⟩ (fun hHeld=>?_)
                          clear hK K
                          refine no 13 ?_
                          exact norm_ (by first|(simp only [putAll,Act.put,List.setIfInBounds_toArray,List.set_cons_zero,List.set_cons_succ];done)|(simp only [putAll,Act.put,List.setIfInBounds_toArray,List.set_cons_zero,List.set_cons_succ];rfl)) (hJ0_3_12 (v431,v434,gb443) _ ⟨hHeld,(rR HO435),(rR HO_425000),(bk BK399),(bk BK400),(bk BK409),(bk BK424),(bk BK443),GW443.out,GE443.out,NB399_443.out,NB443_399.out,NB400_443.out,NB443_400.out,NB409_443.out,NB443_409.out,NB424_443.out,NB443_424.out,be⟩)
                       ·skip
                        rintro ⟨v431,v438,gb443⟩ w96 ⟨hS_,h0_,h1_,h2_,h3_,h4_,h5_,h6_,h7_,h8_,h9_,h10_,h11_,h12_,h13_,h14_,h15_,h16_,h17_,h18_⟩
                        have n0_:Aside0 (Kd.R (Kd.int .i64) 3 w96 w.heap.size (fun k_=>some k_ ≠ (v438:Value).ownBlock∧some k_ ≠ (.slice Ao61 y421.length co61:Value).ownBlock) v431 y430):=⟨h0_⟩
                        have n1_:Aside0 (Kd.R (Kd.int .i64) 3 w96 w.heap.size (fun k_=>some k_ ≠ (v431:Value).ownBlock∧some k_ ≠ (.slice Ao61 y421.length co61:Value).ownBlock) v438 y437):=⟨h1_⟩
                        have n2_:Aside0 (Kd.R (Kd.int .i64) 3 w96 w.heap.size (fun k_=>some k_ ≠ (v431:Value).ownBlock∧some k_ ≠ (v438:Value).ownBlock) (.slice Ao61 y421.length co61) y421):=⟨h2_⟩
                        have n3_:Aside0 (w96.heap[gb399]?=some (.cells #[.int .i64 t389,.slice A390 t390.length c390] 43 (0,0))):=⟨h3_⟩
                        have n4_:Aside0 (w96.heap[gb400]?=some (.cells #[.slice A393 t393.length c393] 29 (0,0))):=⟨h4_⟩
                        have n5_:Aside0 (w96.heap[gb409]?=some (.cells #[.int .i64 t405,.int .i64 t406,.int .i64 t407] 76 (0,0))):=⟨h5_⟩
                        have n6_:Aside0 (w96.heap[gb424]?=some (.cells #[.slice Ao61 y421.length co61] 29 (0,0))):=⟨h6_⟩
                        have n7_:Aside0 (w96.heap[gb443]?=some (.cells #[.slice none 0 0] 29 (0,0))):=⟨h7_⟩
                        have n8_:Aside0 (w.heap.size≤gb443):=⟨h8_⟩
                        have n9_:Aside0 (w.heap.size≤gb443):=⟨h9_⟩
                        have n10_:Aside0 (gb399 ≠ gb443):=⟨h10_⟩
                        have n11_:Aside0 (gb443 ≠ gb399):=⟨h11_⟩
                        have n12_:Aside0 (gb400 ≠ gb443):=⟨h12_⟩
                        have n13_:Aside0 (gb443 ≠ gb400):=⟨h13_⟩
                        have n14_:Aside0 (gb409 ≠ gb443):=⟨h14_⟩
                        have n15_:Aside0 (gb443 ≠ gb409):=⟨h15_⟩
                        have n16_:Aside0 (gb424 ≠ gb443):=⟨h16_⟩
                        have n17_:Aside0 (gb443 ≠ gb424):=⟨h17_⟩
                        have n18_:Aside0 (Below w.heap.size w w96):=⟨h18_⟩
                        clear HO_425000 BK399 BK400 BK409 BK424 HB h0_ h1_ h2_ h3_ h4_ h5_ h6_ h7_ h8_ h9_ h10_ h11_ h12_ h13_ h14_ h15_ h16_ h17_ h18_;have HO432:=n0_;have HO439:=n1_;have HO_425000:=n2_;have BK399:=n3_;have BK400:=n4_;have BK409:=n5_;have BK424:=n6_;have BK443:=n7_;have GW443:=n8_;have GE443:=n9_;have NB399_443:=n10_;have NB443_399:=n11_;have NB400_443:=n12_;have NB443_400:=n13_;have NB409_443:=n14_;have NB443_409:=n15_;have NB424_443:=n16_;have NB443_424:=n17_;have HB:=n18_;clear n0_ n1_ n2_ n3_ n4_ n5_ n6_ n7_ n8_ n9_ n10_ n11_ n12_ n13_ n14_ n15_ n16_ n17_ n18_
                        have hHeld:w96.cell? ⟨gb400,0,none⟩=some (.slice A393 t393.length c393)∧w96.cell? (ad428.add ((x12_3).toNat * 3))=some (.int .i64 ((rd_T76 t396 x12_3).f0))∧w96.cell? ⟨(ad428.add ((x12_3).toNat * 3)).block,(ad428.add ((x12_3).toNat * 3)).off+1,none⟩=some (.int .i64 ((rd_T76 t396 x12_3).f1))∧w96.cell? ⟨(ad428.add ((x12_3).toNat * 3)).block,(ad428.add ((x12_3).toNat * 3)).off+2,none⟩=some (.int .i64 ((rd_T76 t396 x12_3).f2)):=hS_
                        refine norm_ (a':=?_) ?_ ?_
                        rotate_left
                        ·simp only [putAll,Act.put,List.setIfInBounds_toArray,List.set_cons_zero,List.set_cons_succ]
                         rfl
                        refine ot 3 (some 107) (fl 14 5119) HT_ (fun K hK=>?_)
                        refine Kd.R_append_rows_step (Kd.int .i64) (w0:=w) w.heap.size (by rfl) (.tmp 104) (.tmp 106) 22 3 (.int .i64 0) 8 rfl Try.underlying22 info3 rfl (by decide) (by omega) v431 y430 t393 _ _ _ (fun k_=>some k_ ≠ (.slice Ao61 y421.length co61:Value).ownBlock∧some k_ ≠ (v438:Value).ownBlock) (fun _=>False) rfl rfl ?aO ?aR (fun _ _ h=>h) (fun _ h=>h.elim) ?aF ?aB ?aS ?aL ?_
                        (case aR=>exact rC HR393)
                        (case aB=>exact be)
                        (case aF=>exact (fun k_ hk=>⟨Kd.fresh' (Kd.R_lt (rR HO_425000)) k_ hk,Kd.fresh' (Kd.R_lt (rR HO439)) k_ hk⟩))
                        (case aO=>exact (by (with_reducible repeat (first|apply Kd.R_alloc|apply Kd.R_drewN|apply Kd.R_drew));exact Kd.R_mono HO432.out (fun _ hk=>⟨hk.2,hk.1⟩)))
                        (case aS=>exact (below_size be))
                        (case aL=>have:=LMc84.out;omega)
                        intro v434 w97 ho hb hg hat
                        rw [← Ny433.out] at ho
                        have n0_:=Aside0.mk (Kd.R_after (ok:=(fun k_=>some k_ ≠ (v438:Value).ownBlock)) (by (with_reducible repeat (first|apply Kd.R_alloc|apply Kd.R_drewN|apply Kd.R_drew));exact Kd.R_mono HO_425000.out (fun _ hk=>⟨hk.2,hk.1⟩)) hg hat);have n1_:=Aside0.mk (blk_grown (g:=gb399) (o:=.cells #[.int .i64 t389,.slice A390 t390.length c390] 43 (0,0)) (bk BK399) hg (Kd.R_ne HO432.out BK399.out (by decide)));have n2_:=Aside0.mk (blk_grown (g:=gb400) (o:=.cells #[.slice A393 t393.length c393] 29 (0,0)) (bk BK400) hg (Kd.R_ne HO432.out BK400.out (by decide)));have n3_:=Aside0.mk (blk_grown (g:=gb409) (o:=.cells #[.int .i64 t405,.int .i64 t406,.int .i64 t407] 76 (0,0)) (bk BK409) hg (Kd.R_ne HO432.out BK409.out (by decide)));have n4_:=Aside0.mk (blk_grown (g:=gb424) (o:=.cells #[.slice Ao61 y421.length co61] 29 (0,0)) (bk BK424) hg (Kd.R_ne HO432.out BK424.out (by decide)));have n5_:=Aside0.mk (Kd.R_after (ok:=(fun k_=>some k_ ≠ (.slice Ao61 y421.length co61:Value).ownBlock)) (by (with_reducible repeat (first|apply Kd.R_alloc|apply Kd.R_drewN|apply Kd.R_drew));exact Kd.R_mono HO439.out (fun _ hk=>⟨hk.2,hk.1⟩)) hg hat);have n6_:=Aside0.mk (blk_grown (g:=gb443) (o:=.cells #[.slice none 0 0] 29 (0,0)) (bk BK443) hg (Kd.R_ne HO432.out BK443.out (by decide)));have n7_:=Aside0.mk (hb);have n8_:=Aside0.mk (ho);clear HO_425000 BK399 BK400 BK409 BK424 HO439 BK443 HB HO432;have HO_425000:=n0_;have BK399:=n1_;have BK400:=n2_;have BK409:=n3_;have BK424:=n4_;have HO439:=n5_;have BK443:=n6_;have HB:=n7_;have HO435:=n8_;clear n0_ n1_ n2_ n3_ n4_ n5_ n6_ n7_ n8_ ho hb hg hat
                        refine hK.out _ _ ⟨(blk_cell BK400.out 0).trans rfl,((HB.out.cell (World.block_lt_of_cell? w _ hw436_0)).trans hw436_0),((HB.out.cell (World.block_lt_of_cell? w _ hw436_1)).trans hw436_1),((HB.out.cell (World.block_lt_of_cell? w _ hw436_2)).trans hw436_2)⟩ (fun hHeld=>?_)
                        clear hK K
                        refine no 107 ?_
                        exact norm_ (by first|(simp only [putAll,Act.put,List.setIfInBounds_toArray,List.set_cons_zero,List.set_cons_succ];done)|(simp only [putAll,Act.put,List.setIfInBounds_toArray,List.set_cons_zero,List.set_cons_succ];rfl)) (hJ0_3_9_12 (v431,v434,v438,gb443) _ ⟨hHeld,(by (with_reducible repeat (first|apply Kd.R_alloc|apply Kd.R_drewN|apply Kd.R_drew));exact Kd.R_mono HO435.out (fun _ hk=>⟨hk.2,hk.1⟩)),(by (with_reducible repeat (first|apply Kd.R_alloc|apply Kd.R_drewN|apply Kd.R_drew));exact Kd.R_mono HO439.out (fun _ hk=>⟨hk.2,hk.1⟩)),(by (with_reducible repeat (first|apply Kd.R_alloc|apply Kd.R_drewN|apply Kd.R_drew));exact Kd.R_mono HO_425000.out (fun _ hk=>⟨hk.2,hk.1⟩)),(bk BK399),(bk BK400),(bk BK409),(bk BK424),(bk BK443),GW443.out,GE443.out,NB399_443.out,NB443_399.out,NB400_443.out,NB443_400.out,NB409_443.out,NB443_409.out,NB424_443.out,NB443_424.out,be⟩)
                      ·skip
                       rintro ⟨v431,v434,gb443⟩ w95 ⟨hS_,h0_,h1_,h2_,h3_,h4_,h5_,h6_,h7_,h8_,h9_,h10_,h11_,h12_,h13_,h14_,h15_,h16_,h17_⟩
                       have n0_:Aside0 (Kd.R (Kd.int .i64) 3 w95 w.heap.size (fun k_=>some k_ ≠ (.slice Ao61 y421.length co61:Value).ownBlock) v434 y433):=⟨h0_⟩
                       have n1_:Aside0 (Kd.R (Kd.int .i64) 3 w95 w.heap.size (fun k_=>some k_ ≠ (v434:Value).ownBlock) (.slice Ao61 y421.length co61) y421):=⟨h1_⟩
                       have n2_:Aside0 (w95.heap[gb399]?=some (.cells #[.int .i64 t389,.slice A390 t390.length c390] 43 (0,0))):=⟨h2_⟩
                       have n3_:Aside0 (w95.heap[gb400]?=some (.cells #[.slice A393 t393.length c393] 29 (0,0))):=⟨h3_⟩
                       have n4_:Aside0 (w95.heap[gb409]?=some (.cells #[.int .i64 t405,.int .i64 t406,.int .i64 t407] 76 (0,0))):=⟨h4_⟩
                       have n5_:Aside0 (w95.heap[gb424]?=some (.cells #[.slice Ao61 y421.length co61] 29 (0,0))):=⟨h5_⟩
                       have n6_:Aside0 (w95.heap[gb443]?=some (.cells #[.slice none 0 0] 29 (0,0))):=⟨h6_⟩
                       have n7_:Aside0 (w.heap.size≤gb443):=⟨h7_⟩
                       have n8_:Aside0 (w.heap.size≤gb443):=⟨h8_⟩
                       have n9_:Aside0 (gb399 ≠ gb443):=⟨h9_⟩
                       have n10_:Aside0 (gb443 ≠ gb399):=⟨h10_⟩
                       have n11_:Aside0 (gb400 ≠ gb443):=⟨h11_⟩
                       have n12_:Aside0 (gb443 ≠ gb400):=⟨h12_⟩
                       have n13_:Aside0 (gb409 ≠ gb443):=⟨h13_⟩
                       have n14_:Aside0 (gb443 ≠ gb409):=⟨h14_⟩
                       have n15_:Aside0 (gb424 ≠ gb443):=⟨h15_⟩
                       have n16_:Aside0 (gb443 ≠ gb424):=⟨h16_⟩
                       have n17_:Aside0 (Below w.heap.size w w95):=⟨h17_⟩
                       clear HO_425000 BK399 BK400 BK409 BK424 HB h0_ h1_ h2_ h3_ h4_ h5_ h6_ h7_ h8_ h9_ h10_ h11_ h12_ h13_ h14_ h15_ h16_ h17_;have HO435:=n0_;have HO_425000:=n1_;have BK399:=n2_;have BK400:=n3_;have BK409:=n4_;have BK424:=n5_;have BK443:=n6_;have GW443:=n7_;have GE443:=n8_;have NB399_443:=n9_;have NB443_399:=n10_;have NB400_443:=n11_;have NB443_400:=n12_;have NB409_443:=n13_;have NB443_409:=n14_;have NB424_443:=n15_;have NB443_424:=n16_;have HB:=n17_;clear n0_ n1_ n2_ n3_ n4_ n5_ n6_ n7_ n8_ n9_ n10_ n11_ n12_ n13_ n14_ n15_ n16_ n17_
                       have hHeld:w95.cell? ⟨gb400,0,none⟩=some (.slice A393 t393.length c393)∧w95.cell? (ad428.add ((x12_3).toNat * 3))=some (.int .i64 ((rd_T76 t396 x12_3).f0))∧w95.cell? ⟨(ad428.add ((x12_3).toNat * 3)).block,(ad428.add ((x12_3).toNat * 3)).off+1,none⟩=some (.int .i64 ((rd_T76 t396 x12_3).f1))∧w95.cell? ⟨(ad428.add ((x12_3).toNat * 3)).block,(ad428.add ((x12_3).toNat * 3)).off+2,none⟩=some (.int .i64 ((rd_T76 t396 x12_3).f2)):=hS_
                       refine norm_ (a':=?_) ?_ ?_
                       rotate_left
                       ·simp only [putAll,Act.put,List.setIfInBounds_toArray,List.set_cons_zero,List.set_cons_succ]
                        rfl
                       refine ot 9 (some 113) (fl 14 5119) HT_ (fun K hK=>?_)
                       refine Kd.R_lit_step (Kd.int .i64) _ 3 ?hg (N:=113) ?hd (xs:=([(rd_T76 t396 x12_3).f0]:List Int)) (inner:=[.int .i64 ((rd_T76 t396 x12_3).f0)]) (ok:=fun _=>True) (okp:=fun _=>True) ?hr ?hp (fun _ hk=>hk) trivial (Below.refl _ _) (Nat.le_refl _) (by simp) ?_;(case hd=>rfl);(case hg=>rfl);(case hr=>first|(go_simp;done)|(go_simp;rfl));(case hp=>exact (Reps.one (show Kd.M (Kd.int .i64) _ _ _ ((rd_T76 t396 x12_3).f0) [.int .i64 ((rd_T76 t396 x12_3).f0)] from rfl) (Reps.none _ _)))
                       intro v438 w96 ho97 hb hg_ hnew_
                       clear hg_ hnew_
                       (first|rw [← Ny437.out] at ho97|(simp only [Int.reduceToNat] at ho97;rw [← Ny437.out] at ho97))
                       have n0_:=Aside0.mk (Kd.R_elder' (rR HO_425000) (Kd.R_base ho97) hb);have n1_:=Aside0.mk (Kd.R_elder' (rR HO435) (Kd.R_base ho97) hb);have n2_:=Aside0.mk (Kd.R_lower (Kd.R_new' (Kd.R_new' ho97 (Kd.R_lt (rR HO_425000))) (Kd.R_lt (rR HO435))) (below_size be));have n3_:=Aside0.mk (blk_below (bk BK399) hb);have n4_:=Aside0.mk (blk_below (bk BK400) hb);have n5_:=Aside0.mk (blk_below (bk BK409) hb);have n6_:=Aside0.mk (blk_below (bk BK424) hb);have n7_:=Aside0.mk (blk_below (bk BK443) hb);have n8_:=bs hb;clear HO_425000 HO435 BK399 BK400 BK409 BK424 BK443 HB;have HO_425000:=n0_;have HO435:=n1_;have HO439:=n2_;have BK399:=n3_;have BK400:=n4_;have BK409:=n5_;have BK424:=n6_;have BK443:=n7_;have HB:=n8_;clear n0_ n1_ n2_ n3_ n4_ n5_ n6_ n7_ n8_ hb ho97
                       refine hK.out _ _ ⟨(blk_cell BK400.out 0).trans rfl,((HB.out.cell (World.block_lt_of_cell? w _ hw436_0)).trans hw436_0),((HB.out.cell (World.block_lt_of_cell? w _ hw436_1)).trans hw436_1),((HB.out.cell (World.block_lt_of_cell? w _ hw436_2)).trans hw436_2)⟩ (fun hHeld=>?_)
                       clear hK K
                       refine no 113 ?_
                       exact norm_ (by first|(simp only [putAll,Act.put,List.setIfInBounds_toArray,List.set_cons_zero,List.set_cons_succ];done)|(simp only [putAll,Act.put,List.setIfInBounds_toArray,List.set_cons_zero,List.set_cons_succ];rfl)) (hJ0_3_9_12 (v431,v434,v438,gb443) _ ⟨hHeld,(by (with_reducible repeat (first|apply Kd.R_alloc|apply Kd.R_drewN|apply Kd.R_drew));exact Kd.R_mono HO435.out (fun _ hk=>⟨hk.2,hk.1⟩)),(by (with_reducible repeat (first|apply Kd.R_alloc|apply Kd.R_drewN|apply Kd.R_drew));exact Kd.R_mono HO439.out (fun _ hk=>⟨hk.2,hk.1.2⟩)),(rR HO_425000),(bk BK399),(bk BK400),(bk BK409),(bk BK424),(bk BK443),GW443.out,GE443.out,NB399_443.out,NB443_399.out,NB400_443.out,NB443_400.out,NB409_443.out,NB443_409.out,NB424_443.out,NB443_424.out,be⟩)
                     ·skip
                      rintro ⟨v431,v434,v438⟩ w96 ⟨hS_,h0_,h1_,h2_,h3_,h4_,h5_,h6_,h7_⟩
                      have n0_:Aside0 (Kd.R (Kd.int .i64) 3 w96 w.heap.size (fun k_=>some k_ ≠ (v438:Value).ownBlock∧some k_ ≠ (.slice Ao61 y421.length co61:Value).ownBlock) v434 y433):=⟨h0_⟩
                      have n1_:Aside0 (Kd.R (Kd.int .i64) 3 w96 w.heap.size (fun k_=>some k_ ≠ (v434:Value).ownBlock∧some k_ ≠ (.slice Ao61 y421.length co61:Value).ownBlock) v438 y437):=⟨h1_⟩
                      have n2_:Aside0 (Kd.R (Kd.int .i64) 3 w96 w.heap.size (fun k_=>some k_ ≠ (v434:Value).ownBlock∧some k_ ≠ (v438:Value).ownBlock) (.slice Ao61 y421.length co61) y421):=⟨h2_⟩
                      have n3_:Aside0 (w96.heap[gb399]?=some (.cells #[.int .i64 t389,.slice A390 t390.length c390] 43 (0,0))):=⟨h3_⟩
                      have n4_:Aside0 (w96.heap[gb400]?=some (.cells #[.slice A393 t393.length c393] 29 (0,0))):=⟨h4_⟩
                      have n5_:Aside0 (w96.heap[gb409]?=some (.cells #[.int .i64 t405,.int .i64 t406,.int .i64 t407] 76 (0,0))):=⟨h5_⟩
                      have n6_:Aside0 (w96.heap[gb424]?=some (.cells #[.slice Ao61 y421.length co61] 29 (0,0))):=⟨h6_⟩
                      have n7_:Aside0 (Below w.heap.size w w96):=⟨h7_⟩
                      clear HO_425000 BK399 BK400 BK409 BK424 HB h0_ h1_ h2_ h3_ h4_ h5_ h6_ h7_;have HO435:=n0_;have HO439:=n1_;have HO_425000:=n2_;have BK399:=n3_;have BK400:=n4_;have BK409:=n5_;have BK424:=n6_;have HB:=n7_;clear n0_ n1_ n2_ n3_ n4_ n5_ n6_ n7_
                      have hHeld:w96.cell? ⟨gb400,0,none⟩=some (.slice A393 t393.length c393)∧w96.cell? (ad428.add ((x12_3).toNat * 3))=some (.int .i64 ((rd_T76 t396 x12_3).f0))∧w96.cell? ⟨(ad428.add ((x12_3).toNat * 3)).block,(ad428.add ((x12_3).toNat * 3)).off+1,none⟩=some (.int .i64 ((rd_T76 t396 x12_3).f1))∧w96.cell? ⟨(ad428.add ((x12_3).toNat * 3)).block,(ad428.add ((x12_3).toNat * 3)).off+2,none⟩=some (.int .i64 ((rd_T76 t396 x12_3).f2)):=hS_
                      obtain ⟨Ao98,co98,eo98⟩:=Kd.R_slice HO439.out
                      (first|subst eo98|(injection eo98 with f1_ f2_ f3_;have f4_:=f1_.symm;have f5_:=f3_.symm;clear f1_ f2_ f3_;subst f4_;subst f5_))
                      refine norm_ (a':=?_) ?_ ?_
                      rotate_left
                      ·simp only [putAll,Act.put,List.setIfInBounds_toArray,List.set_cons_zero,List.set_cons_succ]
                       rfl
                      refine two_ (i:=10) (j:=12) (Ni:=some 114) (Nj:=some 13) (fl 14 2047) (fl 14 5119) rfl rfl rfl rfl (two_of HT_.out (by kernel_rfl)) (by decide) (by decide) (fun K hK=>?_) (fun K hK=>?_)
                      ·skip
                       refine Kd.R_append_rows_step (Kd.int .i64) (w0:=w) w.heap.size (by rfl) (.tmp 107) (.tmp 113) 22 3 (.int .i64 0) 8 rfl Try.underlying22 info3 rfl (by decide) (by omega) v434 y433 y437 _ _ _ (fun k_=>some k_ ≠ (.slice Ao61 y421.length co61:Value).ownBlock∧some k_ ≠ (.slice Ao98 y437.length co98:Value).ownBlock) (fun _=>False) rfl rfl ?aO ?aR (fun _ _ h=>h) (fun _ h=>h.elim) ?aF ?aB ?aS ?aL ?_
                       (case aR=>exact sR HO439)
                       (case aB=>exact be)
                       (case aF=>exact (fun k_ hk=>⟨Kd.fresh' (Kd.R_lt (rR HO_425000)) k_ hk,Kd.fresh' (Kd.R_lt (rR HO439)) k_ hk⟩))
                       (case aO=>exact (by (with_reducible repeat (first|apply Kd.R_alloc|apply Kd.R_drewN|apply Kd.R_drew));exact Kd.R_mono HO435.out (fun _ hk=>⟨hk.2,hk.1⟩)))
                       (case aS=>exact (below_size be))
                       (case aL=>have:=LMc85.out;omega)
                       intro v441 w97 ho hb hg hat
                       rw [← Ny440.out] at ho
                       have n0_:=Aside0.mk (Kd.R_after (ok:=(fun k_=>some k_ ≠ (.slice Ao98 y437.length co98:Value).ownBlock)) (by (with_reducible repeat (first|apply Kd.R_alloc|apply Kd.R_drewN|apply Kd.R_drew));exact Kd.R_mono HO_425000.out (fun _ hk=>⟨hk.2,hk.1⟩)) hg hat);have n1_:=Aside0.mk (blk_grown (g:=gb399) (o:=.cells #[.int .i64 t389,.slice A390 t390.length c390] 43 (0,0)) (bk BK399) hg (Kd.R_ne HO435.out BK399.out (by decide)));have n2_:=Aside0.mk (blk_grown (g:=gb400) (o:=.cells #[.slice A393 t393.length c393] 29 (0,0)) (bk BK400) hg (Kd.R_ne HO435.out BK400.out (by decide)));have n3_:=Aside0.mk (blk_grown (g:=gb409) (o:=.cells #[.int .i64 t405,.int .i64 t406,.int .i64 t407] 76 (0,0)) (bk BK409) hg (Kd.R_ne HO435.out BK409.out (by decide)));have n4_:=Aside0.mk (blk_grown (g:=gb424) (o:=.cells #[.slice Ao61 y421.length co61] 29 (0,0)) (bk BK424) hg (Kd.R_ne HO435.out BK424.out (by decide)));have n5_:=Aside0.mk (Kd.R_after (ok:=(fun k_=>some k_ ≠ (.slice Ao61 y421.length co61:Value).ownBlock)) (by (with_reducible repeat (first|apply Kd.R_alloc|apply Kd.R_drewN|apply Kd.R_drew));exact Kd.R_mono HO439.out (fun _ hk=>⟨hk.2,hk.1⟩)) hg hat);have n6_:=Aside0.mk (hb);have n7_:=Aside0.mk (ho);clear HO_425000 BK399 BK400 BK409 BK424 HO439 HB HO435;have HO_425000:=n0_;have BK399:=n1_;have BK400:=n2_;have BK409:=n3_;have BK424:=n4_;have HO439:=n5_;have HB:=n6_;have HO442:=n7_;clear n0_ n1_ n2_ n3_ n4_ n5_ n6_ n7_ ho hb hg hat
                       obtain ⟨Ao99,co99,eo99⟩:=Kd.R_slice HO442.out
                       (first|subst eo99|(injection eo99 with f1_ f2_ f3_;have f4_:=f1_.symm;have f5_:=f3_.symm;clear f1_ f2_ f3_;subst f4_;subst f5_))
                       refine hK.out _ _ ⟨(blk_cell BK400.out 0).trans rfl,((HB.out.cell (World.block_lt_of_cell? w _ hw436_0)).trans hw436_0),((HB.out.cell (World.block_lt_of_cell? w _ hw436_1)).trans hw436_1),((HB.out.cell (World.block_lt_of_cell? w _ hw436_2)).trans hw436_2)⟩ (fun hHeld=>?_)
                       clear hK K
                       refine no 114 ?_
                       refine pt 11 115 (fl 14 4095) HT_ ?_
                       exact norm_ (by first|(simp only [putAll,Act.put,List.setIfInBounds_toArray,List.set_cons_zero,List.set_cons_succ];done)|(simp only [putAll,Act.put,List.setIfInBounds_toArray,List.set_cons_zero,List.set_cons_succ];rfl)) (hJ0_3_9_10 (v431,v434,.slice Ao98 y437.length co98,.slice Ao99 y440.length co99) _ ⟨hHeld,(by (with_reducible repeat (first|apply Kd.R_alloc|apply Kd.R_drewN|apply Kd.R_drew));exact Kd.R_mono HO439.out (fun _ hk=>⟨hk.2,hk.1⟩)),(by (with_reducible repeat (first|apply Kd.R_alloc|apply Kd.R_drewN|apply Kd.R_drew));exact Kd.R_mono HO442.out (fun _ hk=>⟨hk.2,hk.1⟩)),(rR HO_425000),(bk BK399),(bk BK400),(bk BK409),(bk BK424),be⟩)
                      ·skip
                       refine box_step ?hg (N:=13) ?hd (cs:=#[.slice none 0 0]) (t:=29) ?hr ?_;(case hd=>rfl);(case hg=>rfl);(case hr=>first|(go_simp;done)|(go_simp;rfl))
                       intro gb443 hg w97 hbox hb
                       have n0_:=Aside0.mk (Kd.R_below (rR HO_425000) hb);have n1_:=Aside0.mk (Kd.R_below (rR HO435) hb);have n2_:=Aside0.mk (Kd.R_below (rR HO439) hb);have n3_:=Aside0.mk (blk_below (bk BK399) hb);have n4_:=Aside0.mk (blk_below (bk BK400) hb);have n5_:=Aside0.mk (blk_below (bk BK409) hb);have n6_:=Aside0.mk (blk_below (bk BK424) hb);have n7_:=bs hb;have n8_:=Aside0.mk (hbox);have n9_:=Aside0.mk ((by rw [hg];exact (below_size be):w.heap.size≤gb443));have n10_:=Aside0.mk ((by rw [hg];exact (below_size be):w.heap.size≤gb443));have n11_:=Aside0.mk ((by rw [hg];exact Nat.ne_of_lt (blk_lt (g:=gb399) (o:=.cells #[.int .i64 t389,.slice A390 t390.length c390] 43 (0,0)) (bk BK399)):gb399 ≠ gb443));have n12_:=Aside0.mk ((by rw [hg];exact Nat.ne_of_gt (blk_lt (g:=gb399) (o:=.cells #[.int .i64 t389,.slice A390 t390.length c390] 43 (0,0)) (bk BK399)):gb443 ≠ gb399));have n13_:=Aside0.mk ((by rw [hg];exact Nat.ne_of_lt (blk_lt (g:=gb400) (o:=.cells #[.slice A393 t393.length c393] 29 (0,0)) (bk BK400)):gb400 ≠ gb443));have n14_:=Aside0.mk ((by rw [hg];exact Nat.ne_of_gt (blk_lt (g:=gb400) (o:=.cells #[.slice A393 t393.length c393] 29 (0,0)) (bk BK400)):gb443 ≠ gb400));have n15_:=Aside0.mk ((by rw [hg];exact Nat.ne_of_lt (blk_lt (g:=gb409) (o:=.cells #[.int .i64 t405,.int .i64 t406,.int .i64 t407] 76 (0,0)) (bk BK409)):gb409 ≠ gb443));have n16_:=Aside0.mk ((by rw [hg];exact Nat.ne_of_gt (blk_lt (g:=gb409) (o:=.cells #[.int .i64 t405,.int .i64 t406,.int .i64 t407] 76 (0,0)) (bk BK409)):gb443 ≠ gb409));have n17_:=Aside0.mk ((by rw [hg];exact Nat.ne_of_lt (blk_lt (g:=gb424) (o:=.cells #[.slice Ao61 y421.length co61] 29 (0,0)) (bk BK424)):gb424 ≠ gb443));have n18_:=Aside0.mk ((by rw [hg];exact Nat.ne_of_gt (blk_lt (g:=gb424) (o:=.cells #[.slice Ao61 y421.length co61] 29 (0,0)) (bk BK424)):gb443 ≠ gb424));clear HO_425000 HO435 HO439 BK399 BK400 BK409 BK424 HB;have HO_425000:=n0_;have HO435:=n1_;have HO439:=n2_;have BK399:=n3_;have BK400:=n4_;have BK409:=n5_;have BK424:=n6_;have HB:=n7_;have BK443:=n8_;have GW443:=n9_;have GE443:=n10_;have NB399_443:=n11_;have NB443_399:=n12_;have NB400_443:=n13_;have NB443_400:=n14_;have NB409_443:=n15_;have NB443_409:=n16_;have NB424_443:=n17_;have NB443_424:=n18_;clear n0_ n1_ n2_ n3_ n4_ n5_ n6_ n7_ n8_ n9_ n10_ n11_ n12_ n13_ n14_ n15_ n16_ n17_ n18_ hb hbox hg
                       refine hK.out _ _ ⟨(blk_cell BK400.out 0).trans rfl,((HB.out.cell (World.block_lt_of_cell? w _ hw436_0)).trans hw436_0),((HB.out.cell (World.block_lt_of_cell? w _ hw436_1)).trans hw436_1),((HB.out.cell (World.block_lt_of_cell? w _ hw436_2)).trans hw436_2)⟩ (fun hHeld=>?_)
                       clear hK K
                       refine no 13 ?_
                       exact norm_ (by first|(simp only [putAll,Act.put,List.setIfInBounds_toArray,List.set_cons_zero,List.set_cons_succ];done)|(simp only [putAll,Act.put,List.setIfInBounds_toArray,List.set_cons_zero,List.set_cons_succ];rfl)) (hJ0_3_9_12 (v431,v434,.slice Ao98 y437.length co98,gb443) _ ⟨hHeld,(rR HO435),(rR HO439),(rR HO_425000),(bk BK399),(bk BK400),(bk BK409),(bk BK424),(bk BK443),GW443.out,GE443.out,NB399_443.out,NB443_399.out,NB400_443.out,NB443_400.out,NB409_443.out,NB443_409.out,NB424_443.out,NB443_424.out,be⟩)
                    ·skip
                     rintro ⟨v431,v434,v438,gb443⟩ w97 ⟨hS_,h0_,h1_,h2_,h3_,h4_,h5_,h6_,h7_,h8_,h9_,h10_,h11_,h12_,h13_,h14_,h15_,h16_,h17_,h18_⟩
                     have n0_:Aside0 (Kd.R (Kd.int .i64) 3 w97 w.heap.size (fun k_=>some k_ ≠ (v438:Value).ownBlock∧some k_ ≠ (.slice Ao61 y421.length co61:Value).ownBlock) v434 y433):=⟨h0_⟩
                     have n1_:Aside0 (Kd.R (Kd.int .i64) 3 w97 w.heap.size (fun k_=>some k_ ≠ (v434:Value).ownBlock∧some k_ ≠ (.slice Ao61 y421.length co61:Value).ownBlock) v438 y437):=⟨h1_⟩
                     have n2_:Aside0 (Kd.R (Kd.int .i64) 3 w97 w.heap.size (fun k_=>some k_ ≠ (v434:Value).ownBlock∧some k_ ≠ (v438:Value).ownBlock) (.slice Ao61 y421.length co61) y421):=⟨h2_⟩
                     have n3_:Aside0 (w97.heap[gb399]?=some (.cells #[.int .i64 t389,.slice A390 t390.length c390] 43 (0,0))):=⟨h3_⟩
                     have n4_:Aside0 (w97.heap[gb400]?=some (.cells #[.slice A393 t393.length c393] 29 (0,0))):=⟨h4_⟩
                     have n5_:Aside0 (w97.heap[gb409]?=some (.cells #[.int .i64 t405,.int .i64 t406,.int .i64 t407] 76 (0,0))):=⟨h5_⟩
                     have n6_:Aside0 (w97.heap[gb424]?=some (.cells #[.slice Ao61 y421.length co61] 29 (0,0))):=⟨h6_⟩
                     have n7_:Aside0 (w97.heap[gb443]?=some (.cells #[.slice none 0 0] 29 (0,0))):=⟨h7_⟩
                     have n8_:Aside0 (w.heap.size≤gb443):=⟨h8_⟩
                     have n9_:Aside0 (w.heap.size≤gb443):=⟨h9_⟩
                     have n10_:Aside0 (gb399 ≠ gb443):=⟨h10_⟩
                     have n11_:Aside0 (gb443 ≠ gb399):=⟨h11_⟩
                     have n12_:Aside0 (gb400 ≠ gb443):=⟨h12_⟩
                     have n13_:Aside0 (gb443 ≠ gb400):=⟨h13_⟩
                     have n14_:Aside0 (gb409 ≠ gb443):=⟨h14_⟩
                     have n15_:Aside0 (gb443 ≠ gb409):=⟨h15_⟩
                     have n16_:Aside0 (gb424 ≠ gb443):=⟨h16_⟩
                     have n17_:Aside0 (gb443 ≠ gb424):=⟨h17_⟩
                     have n18_:Aside0 (Below w.heap.size w w97):=⟨h18_⟩
                     clear HO_425000 BK399 BK400 BK409 BK424 HB h0_ h1_ h2_ h3_ h4_ h5_ h6_ h7_ h8_ h9_ h10_ h11_ h12_ h13_ h14_ h15_ h16_ h17_ h18_;have HO435:=n0_;have HO439:=n1_;have HO_425000:=n2_;have BK399:=n3_;have BK400:=n4_;have BK409:=n5_;have BK424:=n6_;have BK443:=n7_;have GW443:=n8_;have GE443:=n9_;have NB399_443:=n10_;have NB443_399:=n11_;have NB400_443:=n12_;have NB443_400:=n13_;have NB409_443:=n14_;have NB443_409:=n15_;have NB424_443:=n16_;have NB443_424:=n17_;have HB:=n18_;clear n0_ n1_ n2_ n3_ n4_ n5_ n6_ n7_ n8_ n9_ n10_ n11_ n12_ n13_ n14_ n15_ n16_ n17_ n18_
                     have hHeld:w97.cell? ⟨gb400,0,none⟩=some (.slice A393 t393.length c393)∧w97.cell? (ad428.add ((x12_3).toNat * 3))=some (.int .i64 ((rd_T76 t396 x12_3).f0))∧w97.cell? ⟨(ad428.add ((x12_3).toNat * 3)).block,(ad428.add ((x12_3).toNat * 3)).off+1,none⟩=some (.int .i64 ((rd_T76 t396 x12_3).f1))∧w97.cell? ⟨(ad428.add ((x12_3).toNat * 3)).block,(ad428.add ((x12_3).toNat * 3)).off+2,none⟩=some (.int .i64 ((rd_T76 t396 x12_3).f2)):=hS_
                     obtain ⟨Ao99,co99,eo99⟩:=Kd.R_slice HO439.out
                     (first|subst eo99|(injection eo99 with f1_ f2_ f3_;have f4_:=f1_.symm;have f5_:=f3_.symm;clear f1_ f2_ f3_;subst f4_;subst f5_))
                     refine norm_ (a':=?_) ?_ ?_
                     rotate_left
                     ·simp only [putAll,Act.put,List.setIfInBounds_toArray,List.set_cons_zero,List.set_cons_succ]
                      rfl
                     refine ot 10 (some 114) (fl 14 6143) HT_ (fun K hK=>?_)
                     refine Kd.R_append_rows_step (Kd.int .i64) (w0:=w) w.heap.size (by rfl) (.tmp 107) (.tmp 113) 22 3 (.int .i64 0) 8 rfl Try.underlying22 info3 rfl (by decide) (by omega) v434 y433 y437 _ _ _ (fun k_=>some k_ ≠ (.slice Ao61 y421.length co61:Value).ownBlock∧some k_ ≠ (.slice Ao99 y437.length co99:Value).ownBlock) (fun _=>False) rfl rfl ?aO ?aR (fun _ _ h=>h) (fun _ h=>h.elim) ?aF ?aB ?aS ?aL ?_
                     (case aR=>exact sR HO439)
                     (case aB=>exact be)
                     (case aF=>exact (fun k_ hk=>⟨Kd.fresh' (Kd.R_lt (rR HO_425000)) k_ hk,Kd.fresh' (Kd.R_lt (rR HO439)) k_ hk⟩))
                     (case aO=>exact (by (with_reducible repeat (first|apply Kd.R_alloc|apply Kd.R_drewN|apply Kd.R_drew));exact Kd.R_mono HO435.out (fun _ hk=>⟨hk.2,hk.1⟩)))
                     (case aS=>exact (below_size be))
                     (case aL=>have:=LMc85.out;omega)
                     intro v441 w98 ho hb hg hat
                     rw [← Ny440.out] at ho
                     have n0_:=Aside0.mk (Kd.R_after (ok:=(fun k_=>some k_ ≠ (.slice Ao99 y437.length co99:Value).ownBlock)) (by (with_reducible repeat (first|apply Kd.R_alloc|apply Kd.R_drewN|apply Kd.R_drew));exact Kd.R_mono HO_425000.out (fun _ hk=>⟨hk.2,hk.1⟩)) hg hat);have n1_:=Aside0.mk (blk_grown (g:=gb399) (o:=.cells #[.int .i64 t389,.slice A390 t390.length c390] 43 (0,0)) (bk BK399) hg (Kd.R_ne HO435.out BK399.out (by decide)));have n2_:=Aside0.mk (blk_grown (g:=gb400) (o:=.cells #[.slice A393 t393.length c393] 29 (0,0)) (bk BK400) hg (Kd.R_ne HO435.out BK400.out (by decide)));have n3_:=Aside0.mk (blk_grown (g:=gb409) (o:=.cells #[.int .i64 t405,.int .i64 t406,.int .i64 t407] 76 (0,0)) (bk BK409) hg (Kd.R_ne HO435.out BK409.out (by decide)));have n4_:=Aside0.mk (blk_grown (g:=gb424) (o:=.cells #[.slice Ao61 y421.length co61] 29 (0,0)) (bk BK424) hg (Kd.R_ne HO435.out BK424.out (by decide)));have n5_:=Aside0.mk (Kd.R_after (ok:=(fun k_=>some k_ ≠ (.slice Ao61 y421.length co61:Value).ownBlock)) (by (with_reducible repeat (first|apply Kd.R_alloc|apply Kd.R_drewN|apply Kd.R_drew));exact Kd.R_mono HO439.out (fun _ hk=>⟨hk.2,hk.1⟩)) hg hat);have n6_:=Aside0.mk (blk_grown (g:=gb443) (o:=.cells #[.slice none 0 0] 29 (0,0)) (bk BK443) hg (Kd.R_ne HO435.out BK443.out (by decide)));have n7_:=Aside0.mk (hb);have n8_:=Aside0.mk (ho);clear HO_425000 BK399 BK400 BK409 BK424 HO439 BK443 HB HO435;have HO_425000:=n0_;have BK399:=n1_;have BK400:=n2_;have BK409:=n3_;have BK424:=n4_;have HO439:=n5_;have BK443:=n6_;have HB:=n7_;have HO442:=n8_;clear n0_ n1_ n2_ n3_ n4_ n5_ n6_ n7_ n8_ ho hb hg hat
                     obtain ⟨Ao100,co100,eo100⟩:=Kd.R_slice HO442.out
                     (first|subst eo100|(injection eo100 with f1_ f2_ f3_;have f4_:=f1_.symm;have f5_:=f3_.symm;clear f1_ f2_ f3_;subst f4_;subst f5_))
                     refine hK.out _ _ ⟨(blk_cell BK400.out 0).trans rfl,((HB.out.cell (World.block_lt_of_cell? w _ hw436_0)).trans hw436_0),((HB.out.cell (World.block_lt_of_cell? w _ hw436_1)).trans hw436_1),((HB.out.cell (World.block_lt_of_cell? w _ hw436_2)).trans hw436_2)⟩ (fun hHeld=>?_)
                     clear hK K
                     refine no 114 ?_
                     refine pt 11 115 (fl 14 8191) HT_ ?_
                     exact norm_ (by first|(simp only [putAll,Act.put,List.setIfInBounds_toArray,List.set_cons_zero,List.set_cons_succ];done)|(simp only [putAll,Act.put,List.setIfInBounds_toArray,List.set_cons_zero,List.set_cons_succ];rfl)) (hJ0_3_9_10_12 (v431,v434,.slice Ao99 y437.length co99,.slice Ao100 y440.length co100,gb443) _ ⟨hHeld,(by (with_reducible repeat (first|apply Kd.R_alloc|apply Kd.R_drewN|apply Kd.R_drew));exact Kd.R_mono HO439.out (fun _ hk=>⟨hk.2,hk.1⟩)),(by (with_reducible repeat (first|apply Kd.R_alloc|apply Kd.R_drewN|apply Kd.R_drew));exact Kd.R_mono HO442.out (fun _ hk=>⟨hk.2,hk.1⟩)),(rR HO_425000),(bk BK399),(bk BK400),(bk BK409),(bk BK424),(bk BK443),GW443.out,GE443.out,NB399_443.out,NB443_399.out,NB400_443.out,NB443_400.out,NB409_443.out,NB443_409.out,NB424_443.out,NB443_424.out,be⟩)
                   ·skip
                    rintro ⟨v431,v434,v438,v441⟩ w99 ⟨hS_,h0_,h1_,h2_,h3_,h4_,h5_,h6_,h7_⟩
                    have n0_:Aside0 (Kd.R (Kd.int .i64) 3 w99 w.heap.size (fun k_=>some k_ ≠ (v441:Value).ownBlock∧some k_ ≠ (.slice Ao61 y421.length co61:Value).ownBlock) v438 y437):=⟨h0_⟩
                    have n1_:Aside0 (Kd.R (Kd.int .i64) 3 w99 w.heap.size (fun k_=>some k_ ≠ (v438:Value).ownBlock∧some k_ ≠ (.slice Ao61 y421.length co61:Value).ownBlock) v441 y440):=⟨h1_⟩
                    have n2_:Aside0 (Kd.R (Kd.int .i64) 3 w99 w.heap.size (fun k_=>some k_ ≠ (v438:Value).ownBlock∧some k_ ≠ (v441:Value).ownBlock) (.slice Ao61 y421.length co61) y421):=⟨h2_⟩
                    have n3_:Aside0 (w99.heap[gb399]?=some (.cells #[.int .i64 t389,.slice A390 t390.length c390] 43 (0,0))):=⟨h3_⟩
                    have n4_:Aside0 (w99.heap[gb400]?=some (.cells #[.slice A393 t393.length c393] 29 (0,0))):=⟨h4_⟩
                    have n5_:Aside0 (w99.heap[gb409]?=some (.cells #[.int .i64 t405,.int .i64 t406,.int .i64 t407] 76 (0,0))):=⟨h5_⟩
                    have n6_:Aside0 (w99.heap[gb424]?=some (.cells #[.slice Ao61 y421.length co61] 29 (0,0))):=⟨h6_⟩
                    have n7_:Aside0 (Below w.heap.size w w99):=⟨h7_⟩
                    clear HO_425000 BK399 BK400 BK409 BK424 HB h0_ h1_ h2_ h3_ h4_ h5_ h6_ h7_;have HO439:=n0_;have HO442:=n1_;have HO_425000:=n2_;have BK399:=n3_;have BK400:=n4_;have BK409:=n5_;have BK424:=n6_;have HB:=n7_;clear n0_ n1_ n2_ n3_ n4_ n5_ n6_ n7_
                    have hHeld:w99.cell? ⟨gb400,0,none⟩=some (.slice A393 t393.length c393)∧w99.cell? (ad428.add ((x12_3).toNat * 3))=some (.int .i64 ((rd_T76 t396 x12_3).f0))∧w99.cell? ⟨(ad428.add ((x12_3).toNat * 3)).block,(ad428.add ((x12_3).toNat * 3)).off+1,none⟩=some (.int .i64 ((rd_T76 t396 x12_3).f1))∧w99.cell? ⟨(ad428.add ((x12_3).toNat * 3)).block,(ad428.add ((x12_3).toNat * 3)).off+2,none⟩=some (.int .i64 ((rd_T76 t396 x12_3).f2)):=hS_
                    obtain ⟨Ao100,co100,eo100⟩:=Kd.R_slice HO442.out
                    (first|subst eo100|(injection eo100 with f1_ f2_ f3_;have f4_:=f1_.symm;have f5_:=f3_.symm;clear f1_ f2_ f3_;subst f4_;subst f5_))
                    refine norm_ (a':=?_) ?_ ?_
                    rotate_left
                    ·simp only [putAll,Act.put,List.setIfInBounds_toArray,List.set_cons_zero,List.set_cons_succ]
                     rfl
                    refine ot 12 (some 13) (fl 14 8191) HT_ (fun K hK=>?_)
                    refine box_step ?hg (N:=13) ?hd (cs:=#[.slice none 0 0]) (t:=29) ?hr ?_;(case hd=>rfl);(case hg=>rfl);(case hr=>first|(go_simp;done)|(go_simp;rfl))
                    intro gb443 hg w101 hbox hb
                    have n0_:=Aside0.mk (Kd.R_below (rR HO_425000) hb);have n1_:=Aside0.mk (Kd.R_below (rR HO439) hb);have n2_:=Aside0.mk (Kd.R_below (rR HO442) hb);have n3_:=Aside0.mk (blk_below (bk BK399) hb);have n4_:=Aside0.mk (blk_below (bk BK400) hb);have n5_:=Aside0.mk (blk_below (bk BK409) hb);have n6_:=Aside0.mk (blk_below (bk BK424) hb);have n7_:=bs hb;have n8_:=Aside0.mk (hbox);have n9_:=Aside0.mk ((by rw [hg];exact (below_size be):w.heap.size≤gb443));have n10_:=Aside0.mk ((by rw [hg];exact (below_size be):w.heap.size≤gb443));have n11_:=Aside0.mk ((by rw [hg];exact Nat.ne_of_lt (blk_lt (g:=gb399) (o:=.cells #[.int .i64 t389,.slice A390 t390.length c390] 43 (0,0)) (bk BK399)):gb399 ≠ gb443));have n12_:=Aside0.mk ((by rw [hg];exact Nat.ne_of_gt (blk_lt (g:=gb399) (o:=.cells #[.int .i64 t389,.slice A390 t390.length c390] 43 (0,0)) (bk BK399)):gb443 ≠ gb399));have n13_:=Aside0.mk ((by rw [hg];exact Nat.ne_of_lt (blk_lt (g:=gb400) (o:=.cells #[.slice A393 t393.length c393] 29 (0,0)) (bk BK400)):gb400 ≠ gb443));have n14_:=Aside0.mk ((by rw [hg];exact Nat.ne_of_gt (blk_lt (g:=gb400) (o:=.cells #[.slice A393 t393.length c393] 29 (0,0)) (bk BK400)):gb443 ≠ gb400));have n15_:=Aside0.mk ((by rw [hg];exact Nat.ne_of_lt (blk_lt (g:=gb409) (o:=.cells #[.int .i64 t405,.int .i64 t406,.int .i64 t407] 76 (0,0)) (bk BK409)):gb409 ≠ gb443));have n16_:=Aside0.mk ((by rw [hg];exact Nat.ne_of_gt (blk_lt (g:=gb409) (o:=.cells #[.int .i64 t405,.int .i64 t406,.int .i64 t407] 76 (0,0)) (bk BK409)):gb443 ≠ gb409));have n17_:=Aside0.mk ((by rw [hg];exact Nat.ne_of_lt (blk_lt (g:=gb424) (o:=.cells #[.slice Ao61 y421.length co61] 29 (0,0)) (bk BK424)):gb424 ≠ gb443));have n18_:=Aside0.mk ((by rw [hg];exact Nat.ne_of_gt (blk_lt (g:=gb424) (o:=.cells #[.slice Ao61 y421.length co61] 29 (0,0)) (bk BK424)):gb443 ≠ gb424));clear HO_425000 HO439 HO442 BK399 BK400 BK409 BK424 HB;have HO_425000:=n0_;have HO439:=n1_;have HO442:=n2_;have BK399:=n3_;have BK400:=n4_;have BK409:=n5_;have BK424:=n6_;have HB:=n7_;have BK443:=n8_;have GW443:=n9_;have GE443:=n10_;have NB399_443:=n11_;have NB443_399:=n12_;have NB400_443:=n13_;have NB443_400:=n14_;have NB409_443:=n15_;have NB443_409:=n16_;have NB424_443:=n17_;have NB443_424:=n18_;clear n0_ n1_ n2_ n3_ n4_ n5_ n6_ n7_ n8_ n9_ n10_ n11_ n12_ n13_ n14_ n15_ n16_ n17_ n18_ hb hbox hg
                    refine hK.out _ _ ⟨(blk_cell BK400.out 0).trans rfl,((HB.out.cell (World.block_lt_of_cell? w _ hw436_0)).trans hw436_0),((HB.out.cell (World.block_lt_of_cell? w _ hw436_1)).trans hw436_1),((HB.out.cell (World.block_lt_of_cell? w _ hw436_2)).trans hw436_2)⟩ (fun hHeld=>?_)
                    clear hK K
                    refine no 13 ?_
                    exact norm_ (by first|(simp only [putAll,Act.put,List.setIfInBounds_toArray,List.set_cons_zero,List.set_cons_succ];done)|(simp only [putAll,Act.put,List.setIfInBounds_toArray,List.set_cons_zero,List.set_cons_succ];rfl)) (hJ0_3_9_10_12 (v431,v434,v438,.slice Ao100 y440.length co100,gb443) _ ⟨hHeld,(rR HO439),(rR HO442),(rR HO_425000),(bk BK399),(bk BK400),(bk BK409),(bk BK424),(bk BK443),GW443.out,GE443.out,NB399_443.out,NB443_399.out,NB400_443.out,NB443_400.out,NB409_443.out,NB443_409.out,NB424_443.out,NB443_424.out,be⟩)
                  rintro ⟨v431,v434,v438,v441,gb443⟩ w100 ⟨hS_,h0_,h1_,h2_,h3_,h4_,h5_,h6_,h7_,h8_,h9_,h10_,h11_,h12_,h13_,h14_,h15_,h16_,h17_,h18_⟩
                  have n0_:Aside0 (Kd.R (Kd.int .i64) 3 w100 w.heap.size (fun k_=>some k_ ≠ (v441:Value).ownBlock∧some k_ ≠ (.slice Ao61 y421.length co61:Value).ownBlock) v438 y437):=⟨h0_⟩
                  have n1_:Aside0 (Kd.R (Kd.int .i64) 3 w100 w.heap.size (fun k_=>some k_ ≠ (v438:Value).ownBlock∧some k_ ≠ (.slice Ao61 y421.length co61:Value).ownBlock) v441 y440):=⟨h1_⟩
                  have n2_:Aside0 (Kd.R (Kd.int .i64) 3 w100 w.heap.size (fun k_=>some k_ ≠ (v438:Value).ownBlock∧some k_ ≠ (v441:Value).ownBlock) (.slice Ao61 y421.length co61) y421):=⟨h2_⟩
                  have n3_:Aside0 (w100.heap[gb399]?=some (.cells #[.int .i64 t389,.slice A390 t390.length c390] 43 (0,0))):=⟨h3_⟩
                  have n4_:Aside0 (w100.heap[gb400]?=some (.cells #[.slice A393 t393.length c393] 29 (0,0))):=⟨h4_⟩
                  have n5_:Aside0 (w100.heap[gb409]?=some (.cells #[.int .i64 t405,.int .i64 t406,.int .i64 t407] 76 (0,0))):=⟨h5_⟩
                  have n6_:Aside0 (w100.heap[gb424]?=some (.cells #[.slice Ao61 y421.length co61] 29 (0,0))):=⟨h6_⟩
                  have n7_:Aside0 (w100.heap[gb443]?=some (.cells #[.slice none 0 0] 29 (0,0))):=⟨h7_⟩
                  have n8_:Aside0 (w.heap.size≤gb443):=⟨h8_⟩
                  have n9_:Aside0 (w.heap.size≤gb443):=⟨h9_⟩
                  have n10_:Aside0 (gb399 ≠ gb443):=⟨h10_⟩
                  have n11_:Aside0 (gb443 ≠ gb399):=⟨h11_⟩
                  have n12_:Aside0 (gb400 ≠ gb443):=⟨h12_⟩
                  have n13_:Aside0 (gb443 ≠ gb400):=⟨h13_⟩
                  have n14_:Aside0 (gb409 ≠ gb443):=⟨h14_⟩
                  have n15_:Aside0 (gb443 ≠ gb409):=⟨h15_⟩
                  have n16_:Aside0 (gb424 ≠ gb443):=⟨h16_⟩
                  have n17_:Aside0 (gb443 ≠ gb424):=⟨h17_⟩
                  have n18_:Aside0 (Below w.heap.size w w100):=⟨h18_⟩
                  clear HO_425000 BK399 BK400 BK409 BK424 HB h0_ h1_ h2_ h3_ h4_ h5_ h6_ h7_ h8_ h9_ h10_ h11_ h12_ h13_ h14_ h15_ h16_ h17_ h18_;have HO439:=n0_;have HO442:=n1_;have HO_425000:=n2_;have BK399:=n3_;have BK400:=n4_;have BK409:=n5_;have BK424:=n6_;have BK443:=n7_;have GW443:=n8_;have GE443:=n9_;have NB399_443:=n10_;have NB443_399:=n11_;have NB400_443:=n12_;have NB443_400:=n13_;have NB409_443:=n14_;have NB443_409:=n15_;have NB424_443:=n16_;have NB443_424:=n17_;have HB:=n18_;clear n0_ n1_ n2_ n3_ n4_ n5_ n6_ n7_ n8_ n9_ n10_ n11_ n12_ n13_ n14_ n15_ n16_ n17_ n18_
                  have hHeld:w100.cell? ⟨gb400,0,none⟩=some (.slice A393 t393.length c393)∧w100.cell? (ad428.add ((x12_3).toNat * 3))=some (.int .i64 ((rd_T76 t396 x12_3).f0))∧w100.cell? ⟨(ad428.add ((x12_3).toNat * 3)).block,(ad428.add ((x12_3).toNat * 3)).off+1,none⟩=some (.int .i64 ((rd_T76 t396 x12_3).f1))∧w100.cell? ⟨(ad428.add ((x12_3).toNat * 3)).block,(ad428.add ((x12_3).toNat * 3)).off+2,none⟩=some (.int .i64 ((rd_T76 t396 x12_3).f2)):=hS_
                  obtain ⟨Ao101,co101,eo101⟩:=Kd.R_slice HO442.out
                  (first|subst eo101|(injection eo101 with f1_ f2_ f3_;have f4_:=f1_.symm;have f5_:=f3_.symm;clear f1_ f2_ f3_;subst f4_;subst f5_))
                  refine norm_ (a':=?_) ?_ ?_
                  rotate_left
                  ·simp only [putAll,Act.put,List.setIfInBounds_toArray,List.set_cons_zero,List.set_cons_succ]
                   rfl
                  refine ot 13 none (fl 14 16383) HT_ (fun K hK=>?_)
                  have hs102:w100.cell? ⟨gb443,0,none⟩=some (.slice none 0 0):=(blk_cell BK443.out 0).trans rfl
                  have hfs102:=blk_frozen BK443.out 0
                  have hns102_0:=NB399_443.out
                  have hns102_1:=NB400_443.out
                  have hns102_2:=NB409_443.out
                  have hns102_3:=NB424_443.out
                  have hms102_0:=NB443_399.out
                  have hms102_1:=NB443_400.out
                  have hms102_2:=NB443_409.out
                  have hms102_3:=NB443_424.out
                  refine skip_ (w1:=?_) (by rfl) rfl ?_ ?_
                  rotate_left
                  ·go_simp
                   rfl
                  refine hK.out _ _ ⟨((cell_far (p:=⟨gb443,_,none⟩) NB400_443.out _).trans (hHeld.1)),((cell_far (p:=⟨gb443,_,none⟩) (by first|exact Nat.ne_of_lt (Nat.lt_of_lt_of_le (by have:=World.block_lt_of_cell? _ _ hw436_0;first|rwa [add_block] at this|exact this) GW443.out)|(rw [add_block];exact Nat.ne_of_lt (Nat.lt_of_lt_of_le (by have:=World.block_lt_of_cell? _ _ hw436_0;first|rwa [add_block] at this|exact this) GW443.out))|(show (Addr.add _ _).block ≠ _;rw [add_block];exact Nat.ne_of_lt (Nat.lt_of_lt_of_le (by have:=World.block_lt_of_cell? _ _ hw436_0;first|rwa [add_block] at this|exact this) GW443.out))|(dsimp only;exact Nat.ne_of_lt (Nat.lt_of_lt_of_le (by have:=World.block_lt_of_cell? _ _ hw436_0;first|rwa [add_block] at this|exact this) GW443.out))) _).trans (hHeld.2.1)),((cell_far (p:=⟨gb443,_,none⟩) (by first|exact Nat.ne_of_lt (Nat.lt_of_lt_of_le (by have:=World.block_lt_of_cell? _ _ hw436_1;first|rwa [add_block] at this|exact this) GW443.out)|(rw [add_block];exact Nat.ne_of_lt (Nat.lt_of_lt_of_le (by have:=World.block_lt_of_cell? _ _ hw436_1;first|rwa [add_block] at this|exact this) GW443.out))|(show (Addr.add _ _).block ≠ _;rw [add_block];exact Nat.ne_of_lt (Nat.lt_of_lt_of_le (by have:=World.block_lt_of_cell? _ _ hw436_1;first|rwa [add_block] at this|exact this) GW443.out))|(dsimp only;exact Nat.ne_of_lt (Nat.lt_of_lt_of_le (by have:=World.block_lt_of_cell? _ _ hw436_1;first|rwa [add_block] at this|exact this) GW443.out))) _).trans (hHeld.2.2.1)),((cell_far (p:=⟨gb443,_,none⟩) (by first|exact Nat.ne_of_lt (Nat.lt_of_lt_of_le (by have:=World.block_lt_of_cell? _ _ hw436_2;first|rwa [add_block] at this|exact this) GW443.out)|(rw [add_block];exact Nat.ne_of_lt (Nat.lt_of_lt_of_le (by have:=World.block_lt_of_cell? _ _ hw436_2;first|rwa [add_block] at this|exact this) GW443.out))|(show (Addr.add _ _).block ≠ _;rw [add_block];exact Nat.ne_of_lt (Nat.lt_of_lt_of_le (by have:=World.block_lt_of_cell? _ _ hw436_2;first|rwa [add_block] at this|exact this) GW443.out))|(dsimp only;exact Nat.ne_of_lt (Nat.lt_of_lt_of_le (by have:=World.block_lt_of_cell? _ _ hw436_2;first|rwa [add_block] at this|exact this) GW443.out))) _).trans (hHeld.2.2.2))⟩ (fun hHeld=>?_)
                  clear hK K
                  refine done_ (done_of HT_.out (by kernel_rfl)) ?_
                  try go_wp2
                  have n0_:Aside0 (Kd.R (Kd.int .i64) 3 (w100.setCell ⟨gb443,0,none⟩ (.slice Ao101 y440.length co101)) w.heap.size (fun k_=>some k_ ≠ (v438:Value).ownBlock∧some k_ ≠ (.slice Ao101 y440.length co101:Value).ownBlock) (.slice Ao61 y421.length co61) y421):=⟨by (with_reducible repeat (first|apply Kd.R_alloc|apply Kd.R_drewN|apply Kd.R_drew));exact Kd.R_mono (Kd.R_far (p:=⟨gb443,0,none⟩) (Kd.R_types HO_425000.out BK443.out (by decide)) (fun _ hk=>hk.2) (.slice Ao101 y440.length co101)) (fun _ hk=>⟨hk.1.1,hk.1.2⟩)⟩
                  have n1_:Aside0 (Kd.R (Kd.int .i64) 3 (w100.setCell ⟨gb443,0,none⟩ (.slice Ao101 y440.length co101)) w.heap.size (fun k_=>some k_ ≠ (.slice Ao61 y421.length co61:Value).ownBlock∧some k_ ≠ (.slice Ao101 y440.length co101:Value).ownBlock) v438 y437):=⟨by (with_reducible repeat (first|apply Kd.R_alloc|apply Kd.R_drewN|apply Kd.R_drew));exact Kd.R_mono (Kd.R_far (p:=⟨gb443,0,none⟩) (Kd.R_types HO439.out BK443.out (by decide)) (fun _ hk=>hk.2) (.slice Ao101 y440.length co101)) (fun _ hk=>⟨hk.1.2,hk.1.1⟩)⟩
                  have n2_:Aside0 (Kd.R (Kd.int .i64) 3 (w100.setCell ⟨gb443,0,none⟩ (.slice Ao101 y440.length co101)) w.heap.size (fun k_=>some k_ ≠ (.slice Ao61 y421.length co61:Value).ownBlock∧some k_ ≠ (v438:Value).ownBlock) (.slice Ao101 y440.length co101) y440):=⟨by (with_reducible repeat (first|apply Kd.R_alloc|apply Kd.R_drewN|apply Kd.R_drew));exact Kd.R_mono (Kd.R_far (p:=⟨gb443,0,none⟩) (Kd.R_types HO442.out BK443.out (by decide)) (fun _ hk=>hk.2) (.slice Ao101 y440.length co101)) (fun _ hk=>⟨hk.1.2,hk.1.1⟩)⟩
                  have n3_:Aside0 ((w100.setCell ⟨gb443,0,none⟩ (.slice Ao101 y440.length co101)).heap[gb399]?=some (.cells #[.int .i64 t389,.slice A390 t390.length c390] 43 (0,0))):=⟨by (with_reducible repeat (first|refine blk_drewN ?_ _|refine blk_drew ?_|refine blk_alloc ?_ _));refine blk_far ?_ NB399_443.out _;(with_reducible repeat (first|refine blk_drewN ?_ _|refine blk_drew ?_|refine blk_alloc ?_ _));exact BK399.out⟩
                  have n4_:Aside0 ((w100.setCell ⟨gb443,0,none⟩ (.slice Ao101 y440.length co101)).heap[gb400]?=some (.cells #[.slice A393 t393.length c393] 29 (0,0))):=⟨by (with_reducible repeat (first|refine blk_drewN ?_ _|refine blk_drew ?_|refine blk_alloc ?_ _));refine blk_far ?_ NB400_443.out _;(with_reducible repeat (first|refine blk_drewN ?_ _|refine blk_drew ?_|refine blk_alloc ?_ _));exact BK400.out⟩
                  have n5_:Aside0 ((w100.setCell ⟨gb443,0,none⟩ (.slice Ao101 y440.length co101)).heap[gb409]?=some (.cells #[.int .i64 t405,.int .i64 t406,.int .i64 t407] 76 (0,0))):=⟨by (with_reducible repeat (first|refine blk_drewN ?_ _|refine blk_drew ?_|refine blk_alloc ?_ _));refine blk_far ?_ NB409_443.out _;(with_reducible repeat (first|refine blk_drewN ?_ _|refine blk_drew ?_|refine blk_alloc ?_ _));exact BK409.out⟩
                  have n6_:Aside0 ((w100.setCell ⟨gb443,0,none⟩ (.slice Ao101 y440.length co101)).heap[gb424]?=some (.cells #[.slice Ao61 y421.length co61] 29 (0,0))):=⟨by (with_reducible repeat (first|refine blk_drewN ?_ _|refine blk_drew ?_|refine blk_alloc ?_ _));refine blk_far ?_ NB424_443.out _;(with_reducible repeat (first|refine blk_drewN ?_ _|refine blk_drew ?_|refine blk_alloc ?_ _));exact BK424.out⟩
                  have n7_:Aside0 ((w100.setCell ⟨gb443,0,none⟩ (.slice Ao101 y440.length co101)).heap[gb443]?=some (.cells #[.slice Ao101 y440.length co101] 29 (0,0))):=⟨by (with_reducible repeat (first|refine blk_drewN ?_ _|refine blk_drew ?_|refine blk_alloc ?_ _));refine blk_put (cs:=#[.slice none 0 0]) ?_ 0 _ rfl;(with_reducible repeat (first|refine blk_drewN ?_ _|refine blk_drew ?_|refine blk_alloc ?_ _));exact BK443.out⟩
                  have n8_:Aside0 (Below w.heap.size w (w100.setCell ⟨gb443,0,none⟩ (.slice Ao101 y440.length co101))):=⟨be⟩
                  (try clear HO_425000);(try clear HO439);(try clear HO442);(try clear BK399);(try clear BK400);(try clear BK409);(try clear BK424);(try clear BK443);(try clear HB)
                  generalize (w100.setCell ⟨gb443,0,none⟩ (.slice Ao101 y440.length co101))=w103 at n0_ n1_ n2_ n3_ n4_ n5_ n6_ n7_ n8_ ⊢
                  have HO_425000:=n0_;have HO439:=n1_;have HO442:=n2_;have BK399:=n3_;have BK400:=n4_;have BK409:=n5_;have BK424:=n6_;have BK443:=n7_;have HB:=n8_;clear n0_ n1_ n2_ n3_ n4_ n5_ n6_ n7_ n8_;have n0_:=Aside0.mk (Kd.R_drew HO_425000.out);have n1_:=Aside0.mk (Kd.R_drew HO439.out);have n2_:=Aside0.mk (Kd.R_drew HO442.out);have n3_:=Aside0.mk (blk_drew BK399.out);have n4_:=Aside0.mk (blk_drew BK400.out);have n5_:=Aside0.mk (blk_drew BK409.out);have n6_:=Aside0.mk (blk_drew BK424.out);have n7_:=Aside0.mk (blk_drew BK443.out);have n8_:=Aside0.mk (below_drew1 HB.out);clear HO_425000 HO439 HO442 BK399 BK400 BK409 BK424 BK443 HB;have HO_425000:=n0_;have HO439:=n1_;have HO442:=n2_;have BK399:=n3_;have BK400:=n4_;have BK409:=n5_;have BK424:=n6_;have BK443:=n7_;have HB:=n8_;clear n0_ n1_ n2_ n3_ n4_ n5_ n6_ n7_ n8_
                  refine start_ (n:=8) (S:=fun w'=>w'.cell? ⟨gb443,0,none⟩=some (.slice Ao101 y440.length co101)∧w'.cell? ⟨gb400,0,none⟩=some (.slice A393 t393.length c393)) (ds:=[]) (fl 8 0) (by kernel_rfl) rfl rfl ⟨(blk_cell BK443.out 0).trans rfl,(blk_cell BK400.out 0).trans rfl⟩ (fun hHeld=>?_);refine with_tabW laws_FnBest.tab24 laws_FnBest.bits24 (fun HT_ HW_=>?_)
                  generalize w103.drew=w104 at HO_425000 HO439 HO442 BK399 BK400 BK409 BK424 BK443 HB hHeld ⊢
                  refine pt 1 117 (fl 8 2) HT_ ?_
                  refine pt 4 120 (fl 8 18) HT_ ?_
                  refine tt 0 116 (fl 8 19) HT_ HW_ hHeld ?_
                  refine tt 3 119 (fl 8 27) HT_ HW_ hHeld ?_
                  refine ot 2 (some 118) (fl 8 31) HT_ (fun K hK=>?_)
                  refine goes_ Try.func20 (by kernel_rfl) rfl #[.agg #[.slice Ao101 y440.length co101],.slice (some ad428) t396.length c396] (by rfl) rfl rfl (by (try simp only [List.map_toArray,List.map_cons,List.map_nil]);first|done|rfl|(simp only [List.length_drop,List.length_take];rfl)) ?_
                  with_reducible refine (impl_SpreadOf.calls k3 _ _ y440 _ _ t396 t444 _ ?side1 ?side2 ?side3 ?side4 A86.out).mono ?_
                  (case side1=>exact sR HO442)
                  (case side2=>exact (Kd.R_reads' HO442.out).2.1)
                  (case side3=>exact rC HR396)
                  (case side4=>exact HC396.out)
                  rintro e w105 ⟨rfl,hb⟩
                  refine ⟨_,rfl,?_⟩
                  have n0_:=Aside0.mk (Kd.R_below ((rR HO_425000)) hb);have n1_:=Aside0.mk (Kd.R_below ((rR HO439)) hb);have n2_:=Aside0.mk (Kd.R_below ((rR HO442)) hb);have n3_:=Aside0.mk (blk_below (bk BK399) hb);have n4_:=Aside0.mk (blk_below (bk BK400) hb);have n5_:=Aside0.mk (blk_below (bk BK409) hb);have n6_:=Aside0.mk (blk_below (bk BK424) hb);have n7_:=Aside0.mk (blk_below (bk BK443) hb);have n8_:=bs hb;clear HO_425000 HO439 HO442 BK399 BK400 BK409 BK424 BK443 HB;have HO_425000:=n0_;have HO439:=n1_;have HO442:=n2_;have BK399:=n3_;have BK400:=n4_;have BK409:=n5_;have BK424:=n6_;have BK443:=n7_;have HB:=n8_;clear n0_ n1_ n2_ n3_ n4_ n5_ n6_ n7_ n8_;(try clear hb);(try clear hb2);(try clear hk);(try clear hi)
                  refine hK.out _ _ ⟨(blk_cell BK443.out 0).trans rfl,(blk_cell BK400.out 0).trans rfl⟩ (fun hHeld=>?_)
                  clear hK K
                  refine no 118 ?_
                  refine ot 5 (some 121) (fl 8 63) HT_ (fun K hK=>?_)
                  refine goes_ Try.func20 (by kernel_rfl) rfl #[.agg #[.slice A393 t393.length c393],.slice (some ad428) t396.length c396] (by rfl) rfl rfl (by (try simp only [List.map_toArray,List.map_cons,List.map_nil]);first|done|rfl|(simp only [List.length_drop,List.length_take];rfl)) ?_
                  with_reducible refine (impl_SpreadOf.calls k3 _ _ t393 _ _ t396 t445 _ ?side1 ?side2 ?side3 ?side4 A87.out).mono ?_
                  (case side1=>exact rC HR393)
                  (case side2=>exact HC393.out)
                  (case side3=>exact rC HR396)
                  (case side4=>exact HC396.out)
                  rintro e w106 ⟨rfl,hb⟩
                  refine ⟨_,rfl,?_⟩
                  have n0_:=Aside0.mk (Kd.R_below ((rR HO_425000)) hb);have n1_:=Aside0.mk (Kd.R_below ((rR HO439)) hb);have n2_:=Aside0.mk (Kd.R_below ((rR HO442)) hb);have n3_:=Aside0.mk (blk_below (bk BK399) hb);have n4_:=Aside0.mk (blk_below (bk BK400) hb);have n5_:=Aside0.mk (blk_below (bk BK409) hb);have n6_:=Aside0.mk (blk_below (bk BK424) hb);have n7_:=Aside0.mk (blk_below (bk BK443) hb);have n8_:=bs hb;clear HO_425000 HO439 HO442 BK399 BK400 BK409 BK424 BK443 HB;have HO_425000:=n0_;have HO439:=n1_;have HO442:=n2_;have BK399:=n3_;have BK400:=n4_;have BK409:=n5_;have BK424:=n6_;have BK443:=n7_;have HB:=n8_;clear n0_ n1_ n2_ n3_ n4_ n5_ n6_ n7_ n8_;(try clear hb);(try clear hb2);(try clear hk);(try clear hi)
                  refine hK.out _ _ ⟨(blk_cell BK443.out 0).trans rfl,(blk_cell BK400.out 0).trans rfl⟩ (fun hHeld=>?_)
                  clear hK K
                  refine no 121 ?_
                  refine pt 6 122 (fl 8 127) HT_ ?_
                  refine pt 7 14 (fl 8 255) HT_ ?_
                  refine done_ (done_of HT_.out (by kernel_rfl)) ?_
                  go_upto_region 25 with (fail)
                  obtain ⟨is_,his_⟩ : ∃ b_:Bool,b_=decide (t445 < t444):=⟨_,rfl⟩
                  rw [← his_] at HC88
                  rw [← his_]
                  replace his_:=Aside0.mk his_
                  go_cut [156] (fun v156 wc=>∃ (kq:Nat) (x156_87:Bool),v156 = .bool x156_87∧Aside0 (laws_FnBest.j4 kq t396 t401 fr_ x12_3 x156_87 t389 t390 t393 t405 t406 t407=some r)∧Aside0 (kq≤k3)∧Aside0 (Kd.R (Kd.int .i64) 3 wc w.heap.size (fun k_=>some k_ ≠ ((.slice Ao101 y440.length co101):Value).ownBlock) (.slice Ao61 y421.length co61) y421)∧Aside0 (Kd.R (Kd.int .i64) 3 wc w.heap.size (fun k_=>some k_ ≠ ((.slice Ao61 y421.length co61):Value).ownBlock) (.slice Ao101 y440.length co101) y440)∧Aside0 (wc.heap[gb399]?=some (.cells #[.int .i64 t389,(.slice A390 t390.length c390)] 43 (0,0)))∧Aside0 (wc.heap[gb400]?=some (.cells #[(.slice A393 t393.length c393)] 29 (0,0)))∧Aside0 (wc.heap[gb409]?=some (.cells #[.int .i64 t405,.int .i64 t406,.int .i64 t407] 76 (0,0)))∧Aside0 (wc.heap[gb424]?=some (.cells #[(.slice Ao61 y421.length co61)] 29 (0,0)))∧Aside0 (wc.heap[gb443]?=some (.cells #[(.slice Ao101 y440.length co101)] 29 (0,0)))∧Aside0 (Below w.heap.size w wc))
                  case first=>
                   have H:=HC88.out
                   clear HC88
                   by_cases c107:t444 > t445
                   ·rw [if_pos c107] at H
                    have z_:=his_.out.trans (decide_eq_true c107)
                    subst z_
                    clear his_



                    by_cases c108:fr_=true
                    ·rw [if_pos c108] at H
                     subst c108


                     by_cases c109:(true == true)=true
                     ·rw [if_pos c109] at H




                      replace H:=Option.bind_eq_some_iff.mp H
                      obtain ⟨t447,A1100,H⟩:=H
                      try dsimp only at H
                      have A110:=Aside0.mk A1100
                      clear A1100
                      replace H:=Option.bind_eq_some_iff.mp H
                      obtain ⟨t448,A1110,H⟩:=H
                      try dsimp only at H
                      have A111:=Aside0.mk A1110
                      clear A1110
                      have H':=Aside0.mk H
                      clear H
                      try go_wp2
                      have n0_:=Aside0.mk (Kd.R_drew HO_425000.out);have n1_:=Aside0.mk (Kd.R_drew HO439.out);have n2_:=Aside0.mk (Kd.R_drew HO442.out);have n3_:=Aside0.mk (blk_drew BK399.out);have n4_:=Aside0.mk (blk_drew BK400.out);have n5_:=Aside0.mk (blk_drew BK409.out);have n6_:=Aside0.mk (blk_drew BK424.out);have n7_:=Aside0.mk (blk_drew BK443.out);have n8_:=Aside0.mk (below_drew1 HB.out);clear HO_425000 HO439 HO442 BK399 BK400 BK409 BK424 BK443 HB;have HO_425000:=n0_;have HO439:=n1_;have HO442:=n2_;have BK399:=n3_;have BK400:=n4_;have BK409:=n5_;have BK424:=n6_;have BK443:=n7_;have HB:=n8_;clear n0_ n1_ n2_ n3_ n4_ n5_ n6_ n7_ n8_
                      have p446:0≤(x12_3:Int):=of_decide_eq_true (by first|(with_reducible assumption)|assumption)
                      have q446:x12_3 < (t396.length:Int):=of_decide_eq_true (by first|(with_reducible assumption)|assumption)
                      obtain ⟨ad446,e446,hx446_0,hx446_1,hx446_2⟩:=at_T76 HR396.out x12_3 p446 q446
                      have hw446_2:=hx446_2;have hw446_1:=hx446_1;have hw446_0:=hx446_0
                      obtain rfl:ad428=ad446:=(by injection e446)
                      replace hx446_0:=(HB.out.cell (World.block_lt_of_cell? w _ hx446_0)).trans hx446_0
                      replace hx446_1:=(HB.out.cell (World.block_lt_of_cell? w _ hx446_1)).trans hx446_1
                      replace hx446_2:=(HB.out.cell (World.block_lt_of_cell? w _ hx446_2)).trans hx446_2
                      replace p446:=eq_true p446
                      replace q446:=eq_true q446
                      have p449:0≤(x12_3:Int):=of_decide_eq_true (by first|(with_reducible assumption)|assumption)
                      have q449:x12_3 < (t396.length:Int):=of_decide_eq_true (by first|(with_reducible assumption)|assumption)
                      obtain ⟨ad449,e449,hx449_0,hx449_1,hx449_2⟩:=at_T76 HR396.out x12_3 p449 q449
                      have hw449_2:=hx449_2;have hw449_1:=hx449_1;have hw449_0:=hx449_0
                      obtain rfl:ad428=ad449:=(by injection e449)
                      replace hx449_0:=(HB.out.cell (World.block_lt_of_cell? w _ hx449_0)).trans hx449_0
                      replace hx449_1:=(HB.out.cell (World.block_lt_of_cell? w _ hx449_1)).trans hx449_1
                      replace hx449_2:=(HB.out.cell (World.block_lt_of_cell? w _ hx449_2)).trans hx449_2
                      replace p449:=eq_true p449
                      replace q449:=eq_true q449
                      refine start_ (n:=34) (S:=fun w'=>w'.cell? ⟨gb399,0,none⟩=some (.int .i64 t389)∧w'.cell? ⟨gb399,1,none⟩=some (.slice A390 t390.length c390)∧w'.cell? ⟨gb409,0,none⟩=some (.int .i64 t405)∧w'.cell? ⟨gb409,1,none⟩=some (.int .i64 t406)∧w'.cell? ⟨gb409,2,none⟩=some (.int .i64 t407)∧w'.cell? (ad428.add ((x12_3).toNat * 3))=some (.int .i64 ((rd_T76 t396 x12_3).f0))∧w'.cell? ⟨(ad428.add ((x12_3).toNat * 3)).block,(ad428.add ((x12_3).toNat * 3)).off+1,none⟩=some (.int .i64 ((rd_T76 t396 x12_3).f1))∧w'.cell? ⟨(ad428.add ((x12_3).toNat * 3)).block,(ad428.add ((x12_3).toNat * 3)).off+2,none⟩=some (.int .i64 ((rd_T76 t396 x12_3).f2))∧w'.cell? (ad428.add ((x12_3).toNat * 3))=some (.int .i64 ((rd_T76 t396 x12_3).f0))∧w'.cell? ⟨(ad428.add ((x12_3).toNat * 3)).block,(ad428.add ((x12_3).toNat * 3)).off+1,none⟩=some (.int .i64 ((rd_T76 t396 x12_3).f1))∧w'.cell? ⟨(ad428.add ((x12_3).toNat * 3)).block,(ad428.add ((x12_3).toNat * 3)).off+2,none⟩=some (.int .i64 ((rd_T76 t396 x12_3).f2))) (ds:=[]) (fl 34 0) (by kernel_rfl) rfl rfl ⟨(blk_cell BK399.out 0).trans rfl,(blk_cell BK399.out 1).trans rfl,(blk_cell BK409.out 0).trans rfl,(blk_cell BK409.out 1).trans rfl,(blk_cell BK409.out 2).trans rfl,((HB.out.cell (World.block_lt_of_cell? w _ hw446_0)).trans hw446_0),((HB.out.cell (World.block_lt_of_cell? w _ hw446_1)).trans hw446_1),((HB.out.cell (World.block_lt_of_cell? w _ hw446_2)).trans hw446_2),((HB.out.cell (World.block_lt_of_cell? w _ hw449_0)).trans hw449_0),((HB.out.cell (World.block_lt_of_cell? w _ hw449_1)).trans hw449_1),((HB.out.cell (World.block_lt_of_cell? w _ hw449_2)).trans hw449_2)⟩ (fun hHeld=>?_);refine with_tabW laws_FnBest.tab25 laws_FnBest.bits25 (fun HT_ HW_=>?_)
                      generalize w106.drew=w112 at HO_425000 HO439 HO442 BK399 BK400 BK409 BK424 BK443 HB hx446_0 hx446_1 hx446_2 hx449_0 hx449_1 hx449_2 hHeld ⊢
                      refine pt 0 123 (fl 34 1) HT_ ?_
                      refine pt 1 124 (fl 34 3) HT_ ?_
                      refine pt 2 125 (fl 34 7) HT_ ?_
                      refine pt 3 126 (fl 34 15) HT_ ?_
                      refine pt 4 127 (fl 34 31) HT_ ?_
                      refine pt 5 128 (fl 34 63) HT_ ?_
                      refine pt 6 129 (fl 34 127) HT_ ?_
                      refine pt 7 130 (fl 34 255) HT_ ?_
                      refine pt 8 131 (fl 34 511) HT_ ?_
                      refine pt 9 132 (fl 34 1023) HT_ ?_
                      refine pt 11 134 (fl 34 3071) HT_ ?_
                      refine pt 12 135 (fl 34 7167) HT_ ?_
                      refine pt 13 136 (fl 34 15359) HT_ ?_
                      refine pt 14 137 (fl 34 31743) HT_ ?_
                      refine pt 18 141 (fl 34 293887) HT_ ?_
                      refine pt 22 145 (fl 34 4488191) HT_ ?_
                      refine pt 25 148 (fl 34 38042623) HT_ ?_
                      refine pt 26 149 (fl 34 105151487) HT_ ?_
                      refine pt 27 150 (fl 34 239369215) HT_ ?_
                      refine pt 28 151 (fl 34 507804671) HT_ ?_
                      refine tt 10 133 (fl 34 507805695) HT_ HW_ hHeld ?_
                      refine tt 15 138 (fl 34 507838463) HT_ HW_ hHeld ?_
                      refine tt 19 142 (fl 34 508362751) HT_ HW_ hHeld ?_
                      refine tt 21 144 (fl 34 510459903) HT_ HW_ hHeld ?_
                      refine tt 29 152 (fl 34 1047330815) HT_ HW_ hHeld ?_
                      refine ot 16 (some 139) (fl 34 1047396351) HT_ (fun K hK=>?_)
                      refine goes_ Try.func52 (by kernel_rfl) rfl #[.agg #[.int .i64 t389,.slice A390 t390.length c390],.int .i64 ((rd_T76 t396 x12_3).f0)] (by rfl) rfl rfl (by (try simp only [List.map_toArray,List.map_cons,List.map_nil]);first|done|rfl|(simp only [List.length_drop,List.length_take];rfl)) ?_
                      with_reducible refine (impl_LoadOf.calls k3 t389 _ _ t390 ((rd_T76 t396 x12_3).f0) t447 _ ?side1 ?side2 A110.out).mono ?_
                      (case side1=>exact rC HR390)
                      (case side2=>exact HC390.out)
                      rintro e w113 ⟨rfl,hb⟩
                      refine ⟨_,rfl,?_⟩
                      have n0_:=Aside0.mk (Kd.R_below ((rR HO_425000)) hb);have n1_:=Aside0.mk (Kd.R_below ((rR HO439)) hb);have n2_:=Aside0.mk (Kd.R_below ((rR HO442)) hb);have n3_:=Aside0.mk (blk_below (bk BK399) hb);have n4_:=Aside0.mk (blk_below (bk BK400) hb);have n5_:=Aside0.mk (blk_below (bk BK409) hb);have n6_:=Aside0.mk (blk_below (bk BK424) hb);have n7_:=Aside0.mk (blk_below (bk BK443) hb);have n8_:=bs hb;clear HO_425000 HO439 HO442 BK399 BK400 BK409 BK424 BK443 HB;have HO_425000:=n0_;have HO439:=n1_;have HO442:=n2_;have BK399:=n3_;have BK400:=n4_;have BK409:=n5_;have BK424:=n6_;have BK443:=n7_;have HB:=n8_;clear n0_ n1_ n2_ n3_ n4_ n5_ n6_ n7_ n8_;(try clear hb);(try clear hb2);(try clear hk);(try clear hi)
                      refine hK.out _ _ ⟨(blk_cell BK399.out 0).trans rfl,(blk_cell BK399.out 1).trans rfl,(blk_cell BK409.out 0).trans rfl,(blk_cell BK409.out 1).trans rfl,(blk_cell BK409.out 2).trans rfl,((HB.out.cell (World.block_lt_of_cell? w _ hw446_0)).trans hw446_0),((HB.out.cell (World.block_lt_of_cell? w _ hw446_1)).trans hw446_1),((HB.out.cell (World.block_lt_of_cell? w _ hw446_2)).trans hw446_2),((HB.out.cell (World.block_lt_of_cell? w _ hw449_0)).trans hw449_0),((HB.out.cell (World.block_lt_of_cell? w _ hw449_1)).trans hw449_1),((HB.out.cell (World.block_lt_of_cell? w _ hw449_2)).trans hw449_2)⟩ (fun hHeld=>?_)
                      clear hK K
                      refine no 139 ?_
                      refine pt 17 140 (fl 34 1047527423) HT_ ?_
                      refine pt 20 143 (fl 34 1048575999) HT_ ?_
                      refine ot 23 (some 146) (fl 34 1056964607) HT_ (fun K hK=>?_)
                      refine goes_ Try.func52 (by kernel_rfl) rfl #[.agg #[.int .i64 t389,.slice A390 t390.length c390],.int .i64 t401] (by rfl) rfl rfl (by (try simp only [List.map_toArray,List.map_cons,List.map_nil]);first|done|rfl|(simp only [List.length_drop,List.length_take];rfl)) ?_
                      with_reducible refine (impl_LoadOf.calls k3 t389 _ _ t390 t401 t448 _ ?side1 ?side2 A111.out).mono ?_
                      (case side1=>exact rC HR390)
                      (case side2=>exact HC390.out)
                      rintro e w114 ⟨rfl,hb⟩
                      refine ⟨_,rfl,?_⟩
                      have n0_:=Aside0.mk (Kd.R_below ((rR HO_425000)) hb);have n1_:=Aside0.mk (Kd.R_below ((rR HO439)) hb);have n2_:=Aside0.mk (Kd.R_below ((rR HO442)) hb);have n3_:=Aside0.mk (blk_below (bk BK399) hb);have n4_:=Aside0.mk (blk_below (bk BK400) hb);have n5_:=Aside0.mk (blk_below (bk BK409) hb);have n6_:=Aside0.mk (blk_below (bk BK424) hb);have n7_:=Aside0.mk (blk_below (bk BK443) hb);have n8_:=bs hb;clear HO_425000 HO439 HO442 BK399 BK400 BK409 BK424 BK443 HB;have HO_425000:=n0_;have HO439:=n1_;have HO442:=n2_;have BK399:=n3_;have BK400:=n4_;have BK409:=n5_;have BK424:=n6_;have BK443:=n7_;have HB:=n8_;clear n0_ n1_ n2_ n3_ n4_ n5_ n6_ n7_ n8_;(try clear hb);(try clear hb2);(try clear hk);(try clear hi)
                      refine hK.out _ _ ⟨(blk_cell BK399.out 0).trans rfl,(blk_cell BK399.out 1).trans rfl,(blk_cell BK409.out 0).trans rfl,(blk_cell BK409.out 1).trans rfl,(blk_cell BK409.out 2).trans rfl,((HB.out.cell (World.block_lt_of_cell? w _ hw446_0)).trans hw446_0),((HB.out.cell (World.block_lt_of_cell? w _ hw446_1)).trans hw446_1),((HB.out.cell (World.block_lt_of_cell? w _ hw446_2)).trans hw446_2),((HB.out.cell (World.block_lt_of_cell? w _ hw449_0)).trans hw449_0),((HB.out.cell (World.block_lt_of_cell? w _ hw449_1)).trans hw449_1),((HB.out.cell (World.block_lt_of_cell? w _ hw449_2)).trans hw449_2)⟩ (fun hHeld=>?_)
                      clear hK K
                      refine no 146 ?_
                      refine pt 24 147 (fl 34 1073741823) HT_ ?_
                      refine pt 30 153 (fl 34 2147483647) HT_ ?_
                      refine pt 31 154 (fl 34 4294967295) HT_ ?_
                      refine pt 32 155 (fl 34 8589934591) HT_ ?_
                      refine pt 33 156 (fl 34 17179869183) HT_ ?_
                      refine done_ (done_of HT_.out (by kernel_rfl)) ?_
                      try go_wp2
                      go_meet
                      case rel=>exact ⟨_,(decide ((wrap64 ((wrap64 (t447+1)) * t407)) < (wrap64 ((wrap64 (t448+1)) * ((rd_T76 t396 x12_3).f2))))),rd_,H',⟨by have:=HJ5.out;have:=HJ45.out;have:=HK3.out;first|omega|exact Nat.le_refl _⟩,⟨by (with_reducible repeat (first|apply Kd.R_alloc|apply Kd.R_drewN|apply Kd.R_drew));exact Kd.R_mono HO_425000.out (fun _ hk=>hk.2)⟩,⟨by (with_reducible repeat (first|apply Kd.R_alloc|apply Kd.R_drewN|apply Kd.R_drew));exact Kd.R_mono HO442.out (fun _ hk=>hk.1)⟩,⟨bk BK399⟩,⟨bk BK400⟩,⟨bk BK409⟩,⟨bk BK424⟩,⟨bk BK443⟩,⟨be⟩⟩
                     ·exact absurd rfl c109
                    ·rw [if_neg c108] at H
                     replace c108:=Bool.eq_false_iff.mpr c108
                     subst c108


                     have H':=Aside0.mk H
                     clear H
                     try go_wp2
                     have n0_:=Aside0.mk (Kd.R_drew HO_425000.out);have n1_:=Aside0.mk (Kd.R_drew HO439.out);have n2_:=Aside0.mk (Kd.R_drew HO442.out);have n3_:=Aside0.mk (blk_drew BK399.out);have n4_:=Aside0.mk (blk_drew BK400.out);have n5_:=Aside0.mk (blk_drew BK409.out);have n6_:=Aside0.mk (blk_drew BK424.out);have n7_:=Aside0.mk (blk_drew BK443.out);have n8_:=Aside0.mk (below_drew1 HB.out);clear HO_425000 HO439 HO442 BK399 BK400 BK409 BK424 BK443 HB;have HO_425000:=n0_;have HO439:=n1_;have HO442:=n2_;have BK399:=n3_;have BK400:=n4_;have BK409:=n5_;have BK424:=n6_;have BK443:=n7_;have HB:=n8_;clear n0_ n1_ n2_ n3_ n4_ n5_ n6_ n7_ n8_
                     refine start_ (n:=34) (S:=fun w'=>True) (ds:=[]) (fl 34 0) (by kernel_rfl) rfl rfl trivial (fun hHeld=>?_);refine with_tabW laws_FnBest.tab25 laws_FnBest.bits25 (fun HT_ HW_=>?_)
                     generalize w106.drew=w116 at HO_425000 HO439 HO442 BK399 BK400 BK409 BK424 BK443 HB hHeld ⊢
                     refine pt 0 123 (fl 34 1) HT_ ?_
                     refine pt 1 124 (fl 34 3) HT_ ?_
                     refine pt 2 125 (fl 34 7) HT_ ?_
                     refine pt 3 126 (fl 34 15) HT_ ?_
                     refine pt 4 127 (fl 34 31) HT_ ?_
                     refine pt 5 128 (fl 34 63) HT_ ?_
                     refine ut 6 129 (fl 34 127) HT_ ?_
                     refine ut 7 130 (fl 34 255) HT_ ?_
                     refine ut 8 131 (fl 34 511) HT_ ?_
                     refine ut 9 132 (fl 34 1023) HT_ ?_
                     refine ut 10 133 (fl 34 2047) HT_ ?_
                     refine ut 11 134 (fl 34 4095) HT_ ?_
                     refine ut 12 135 (fl 34 8191) HT_ ?_
                     refine ut 13 136 (fl 34 16383) HT_ ?_
                     refine ut 14 137 (fl 34 32767) HT_ ?_
                     refine ut 15 138 (fl 34 65535) HT_ ?_
                     refine ut 16 139 (fl 34 131071) HT_ ?_
                     refine ut 17 140 (fl 34 262143) HT_ ?_
                     refine ut 18 141 (fl 34 524287) HT_ ?_
                     refine ut 19 142 (fl 34 1048575) HT_ ?_
                     refine ut 20 143 (fl 34 2097151) HT_ ?_
                     refine ut 21 144 (fl 34 4194303) HT_ ?_
                     refine ut 22 145 (fl 34 8388607) HT_ ?_
                     refine ut 23 146 (fl 34 16777215) HT_ ?_
                     refine ut 24 147 (fl 34 33554431) HT_ ?_
                     refine ut 25 148 (fl 34 67108863) HT_ ?_
                     refine ut 26 149 (fl 34 134217727) HT_ ?_
                     refine ut 27 150 (fl 34 268435455) HT_ ?_
                     refine ut 28 151 (fl 34 536870911) HT_ ?_
                     refine ut 29 152 (fl 34 1073741823) HT_ ?_
                     refine ut 30 153 (fl 34 2147483647) HT_ ?_
                     refine ut 31 154 (fl 34 4294967295) HT_ ?_
                     refine ut 32 155 (fl 34 8589934591) HT_ ?_
                     refine pt 33 156 (fl 34 17179869183) HT_ ?_
                     refine done_ (done_of HT_.out (by kernel_rfl)) ?_
                     try go_wp2
                     go_meet
                     case rel=>exact ⟨_,(true),rd_,H',⟨by have:=HJ5.out;have:=HJ45.out;have:=HK3.out;first|omega|exact Nat.le_refl _⟩,⟨by (with_reducible repeat (first|apply Kd.R_alloc|apply Kd.R_drewN|apply Kd.R_drew));exact Kd.R_mono HO_425000.out (fun _ hk=>hk.2)⟩,⟨by (with_reducible repeat (first|apply Kd.R_alloc|apply Kd.R_drewN|apply Kd.R_drew));exact Kd.R_mono HO442.out (fun _ hk=>hk.1)⟩,⟨bk BK399⟩,⟨bk BK400⟩,⟨bk BK409⟩,⟨bk BK424⟩,⟨bk BK443⟩,⟨be⟩⟩
                   ·rw [if_neg c107] at H
                    have z_:=his_.out.trans (decide_eq_false c107)
                    subst z_
                    clear his_



                    by_cases c117:(false == fr_)=true
                    ·rw [if_pos c117] at H
                     have z_:fr_=false:=(show ∀ b_:Bool,((false == b_)=true)→b_=false by decide) fr_ c117
                     clear c117
                     subst z_




                     replace H:=Option.bind_eq_some_iff.mp H
                     obtain ⟨t451,A1180,H⟩:=H
                     try dsimp only at H
                     have A118:=Aside0.mk A1180
                     clear A1180
                     replace H:=Option.bind_eq_some_iff.mp H
                     obtain ⟨t452,A1190,H⟩:=H
                     try dsimp only at H
                     have A119:=Aside0.mk A1190
                     clear A1190
                     have H':=Aside0.mk H
                     clear H
                     try go_wp2
                     have n0_:=Aside0.mk (Kd.R_drew HO_425000.out);have n1_:=Aside0.mk (Kd.R_drew HO439.out);have n2_:=Aside0.mk (Kd.R_drew HO442.out);have n3_:=Aside0.mk (blk_drew BK399.out);have n4_:=Aside0.mk (blk_drew BK400.out);have n5_:=Aside0.mk (blk_drew BK409.out);have n6_:=Aside0.mk (blk_drew BK424.out);have n7_:=Aside0.mk (blk_drew BK443.out);have n8_:=Aside0.mk (below_drew1 HB.out);clear HO_425000 HO439 HO442 BK399 BK400 BK409 BK424 BK443 HB;have HO_425000:=n0_;have HO439:=n1_;have HO442:=n2_;have BK399:=n3_;have BK400:=n4_;have BK409:=n5_;have BK424:=n6_;have BK443:=n7_;have HB:=n8_;clear n0_ n1_ n2_ n3_ n4_ n5_ n6_ n7_ n8_
                     have p450:0≤(x12_3:Int):=of_decide_eq_true (by first|(with_reducible assumption)|assumption)
                     have q450:x12_3 < (t396.length:Int):=of_decide_eq_true (by first|(with_reducible assumption)|assumption)
                     obtain ⟨ad450,e450,hx450_0,hx450_1,hx450_2⟩:=at_T76 HR396.out x12_3 p450 q450
                     have hw450_2:=hx450_2;have hw450_1:=hx450_1;have hw450_0:=hx450_0
                     obtain rfl:ad428=ad450:=(by injection e450)
                     replace hx450_0:=(HB.out.cell (World.block_lt_of_cell? w _ hx450_0)).trans hx450_0
                     replace hx450_1:=(HB.out.cell (World.block_lt_of_cell? w _ hx450_1)).trans hx450_1
                     replace hx450_2:=(HB.out.cell (World.block_lt_of_cell? w _ hx450_2)).trans hx450_2
                     replace p450:=eq_true p450
                     replace q450:=eq_true q450
                     have p453:0≤(x12_3:Int):=of_decide_eq_true (by first|(with_reducible assumption)|assumption)
                     have q453:x12_3 < (t396.length:Int):=of_decide_eq_true (by first|(with_reducible assumption)|assumption)
                     obtain ⟨ad453,e453,hx453_0,hx453_1,hx453_2⟩:=at_T76 HR396.out x12_3 p453 q453
                     have hw453_2:=hx453_2;have hw453_1:=hx453_1;have hw453_0:=hx453_0
                     obtain rfl:ad428=ad453:=(by injection e453)
                     replace hx453_0:=(HB.out.cell (World.block_lt_of_cell? w _ hx453_0)).trans hx453_0
                     replace hx453_1:=(HB.out.cell (World.block_lt_of_cell? w _ hx453_1)).trans hx453_1
                     replace hx453_2:=(HB.out.cell (World.block_lt_of_cell? w _ hx453_2)).trans hx453_2
                     replace p453:=eq_true p453
                     replace q453:=eq_true q453
                     refine start_ (n:=34) (S:=fun w'=>w'.cell? ⟨gb399,0,none⟩=some (.int .i64 t389)∧w'.cell? ⟨gb399,1,none⟩=some (.slice A390 t390.length c390)∧w'.cell? ⟨gb409,0,none⟩=some (.int .i64 t405)∧w'.cell? ⟨gb409,1,none⟩=some (.int .i64 t406)∧w'.cell? ⟨gb409,2,none⟩=some (.int .i64 t407)∧w'.cell? (ad428.add ((x12_3).toNat * 3))=some (.int .i64 ((rd_T76 t396 x12_3).f0))∧w'.cell? ⟨(ad428.add ((x12_3).toNat * 3)).block,(ad428.add ((x12_3).toNat * 3)).off+1,none⟩=some (.int .i64 ((rd_T76 t396 x12_3).f1))∧w'.cell? ⟨(ad428.add ((x12_3).toNat * 3)).block,(ad428.add ((x12_3).toNat * 3)).off+2,none⟩=some (.int .i64 ((rd_T76 t396 x12_3).f2))∧w'.cell? (ad428.add ((x12_3).toNat * 3))=some (.int .i64 ((rd_T76 t396 x12_3).f0))∧w'.cell? ⟨(ad428.add ((x12_3).toNat * 3)).block,(ad428.add ((x12_3).toNat * 3)).off+1,none⟩=some (.int .i64 ((rd_T76 t396 x12_3).f1))∧w'.cell? ⟨(ad428.add ((x12_3).toNat * 3)).block,(ad428.add ((x12_3).toNat * 3)).off+2,none⟩=some (.int .i64 ((rd_T76 t396 x12_3).f2))) (ds:=[]) (fl 34 0) (by kernel_rfl) rfl rfl ⟨(blk_cell BK399.out 0).trans rfl,(blk_cell BK399.out 1).trans rfl,(blk_cell BK409.out 0).trans rfl,(blk_cell BK409.out 1).trans rfl,(blk_cell BK409.out 2).trans rfl,((HB.out.cell (World.block_lt_of_cell? w _ hw450_0)).trans hw450_0),((HB.out.cell (World.block_lt_of_cell? w _ hw450_1)).trans hw450_1),((HB.out.cell (World.block_lt_of_cell? w _ hw450_2)).trans hw450_2),((HB.out.cell (World.block_lt_of_cell? w _ hw453_0)).trans hw453_0),((HB.out.cell (World.block_lt_of_cell? w _ hw453_1)).trans hw453_1),((HB.out.cell (World.block_lt_of_cell? w _ hw453_2)).trans hw453_2)⟩ (fun hHeld=>?_);refine with_tabW laws_FnBest.tab25 laws_FnBest.bits25 (fun HT_ HW_=>?_)
                     generalize w106.drew=w120 at HO_425000 HO439 HO442 BK399 BK400 BK409 BK424 BK443 HB hx450_0 hx450_1 hx450_2 hx453_0 hx453_1 hx453_2 hHeld ⊢
                     refine pt 0 123 (fl 34 1) HT_ ?_
                     refine pt 1 124 (fl 34 3) HT_ ?_
                     refine ut 2 125 (fl 34 7) HT_ ?_
                     refine ut 3 126 (fl 34 15) HT_ ?_
                     refine pt 4 127 (fl 34 31) HT_ ?_
                     refine pt 5 128 (fl 34 63) HT_ ?_
                     refine pt 6 129 (fl 34 127) HT_ ?_
                     refine pt 7 130 (fl 34 255) HT_ ?_
                     refine pt 8 131 (fl 34 511) HT_ ?_
                     refine pt 9 132 (fl 34 1023) HT_ ?_
                     refine pt 11 134 (fl 34 3071) HT_ ?_
                     refine pt 12 135 (fl 34 7167) HT_ ?_
                     refine pt 13 136 (fl 34 15359) HT_ ?_
                     refine pt 14 137 (fl 34 31743) HT_ ?_
                     refine pt 18 141 (fl 34 293887) HT_ ?_
                     refine pt 22 145 (fl 34 4488191) HT_ ?_
                     refine pt 25 148 (fl 34 38042623) HT_ ?_
                     refine pt 26 149 (fl 34 105151487) HT_ ?_
                     refine pt 27 150 (fl 34 239369215) HT_ ?_
                     refine pt 28 151 (fl 34 507804671) HT_ ?_
                     refine tt 10 133 (fl 34 507805695) HT_ HW_ hHeld ?_
                     refine tt 15 138 (fl 34 507838463) HT_ HW_ hHeld ?_
                     refine tt 19 142 (fl 34 508362751) HT_ HW_ hHeld ?_
                     refine tt 21 144 (fl 34 510459903) HT_ HW_ hHeld ?_
                     refine tt 29 152 (fl 34 1047330815) HT_ HW_ hHeld ?_
                     refine ot 16 (some 139) (fl 34 1047396351) HT_ (fun K hK=>?_)
                     refine goes_ Try.func52 (by kernel_rfl) rfl #[.agg #[.int .i64 t389,.slice A390 t390.length c390],.int .i64 ((rd_T76 t396 x12_3).f0)] (by rfl) rfl rfl (by (try simp only [List.map_toArray,List.map_cons,List.map_nil]);first|done|rfl|(simp only [List.length_drop,List.length_take];rfl)) ?_
                     with_reducible refine (impl_LoadOf.calls k3 t389 _ _ t390 ((rd_T76 t396 x12_3).f0) t451 _ ?side1 ?side2 A118.out).mono ?_
                     (case side1=>exact rC HR390)
                     (case side2=>exact HC390.out)
                     rintro e w121 ⟨rfl,hb⟩
                     refine ⟨_,rfl,?_⟩
                     have n0_:=Aside0.mk (Kd.R_below ((rR HO_425000)) hb);have n1_:=Aside0.mk (Kd.R_below ((rR HO439)) hb);have n2_:=Aside0.mk (Kd.R_below ((rR HO442)) hb);have n3_:=Aside0.mk (blk_below (bk BK399) hb);have n4_:=Aside0.mk (blk_below (bk BK400) hb);have n5_:=Aside0.mk (blk_below (bk BK409) hb);have n6_:=Aside0.mk (blk_below (bk BK424) hb);have n7_:=Aside0.mk (blk_below (bk BK443) hb);have n8_:=bs hb;clear HO_425000 HO439 HO442 BK399 BK400 BK409 BK424 BK443 HB;have HO_425000:=n0_;have HO439:=n1_;have HO442:=n2_;have BK399:=n3_;have BK400:=n4_;have BK409:=n5_;have BK424:=n6_;have BK443:=n7_;have HB:=n8_;clear n0_ n1_ n2_ n3_ n4_ n5_ n6_ n7_ n8_;(try clear hb);(try clear hb2);(try clear hk);(try clear hi)
                     refine hK.out _ _ ⟨(blk_cell BK399.out 0).trans rfl,(blk_cell BK399.out 1).trans rfl,(blk_cell BK409.out 0).trans rfl,(blk_cell BK409.out 1).trans rfl,(blk_cell BK409.out 2).trans rfl,((HB.out.cell (World.block_lt_of_cell? w _ hw450_0)).trans hw450_0),((HB.out.cell (World.block_lt_of_cell? w _ hw450_1)).trans hw450_1),((HB.out.cell (World.block_lt_of_cell? w _ hw450_2)).trans hw450_2),((HB.out.cell (World.block_lt_of_cell? w _ hw453_0)).trans hw453_0),((HB.out.cell (World.block_lt_of_cell? w _ hw453_1)).trans hw453_1),((HB.out.cell (World.block_lt_of_cell? w _ hw453_2)).trans hw453_2)⟩ (fun hHeld=>?_)
                     clear hK K
                     refine no 139 ?_
                     refine pt 17 140 (fl 34 1047527423) HT_ ?_
                     refine pt 20 143 (fl 34 1048575999) HT_ ?_
                     refine ot 23 (some 146) (fl 34 1056964607) HT_ (fun K hK=>?_)
                     refine goes_ Try.func52 (by kernel_rfl) rfl #[.agg #[.int .i64 t389,.slice A390 t390.length c390],.int .i64 t401] (by rfl) rfl rfl (by (try simp only [List.map_toArray,List.map_cons,List.map_nil]);first|done|rfl|(simp only [List.length_drop,List.length_take];rfl)) ?_
                     with_reducible refine (impl_LoadOf.calls k3 t389 _ _ t390 t401 t452 _ ?side1 ?side2 A119.out).mono ?_
                     (case side1=>exact rC HR390)
                     (case side2=>exact HC390.out)
                     rintro e w122 ⟨rfl,hb⟩
                     refine ⟨_,rfl,?_⟩
                     have n0_:=Aside0.mk (Kd.R_below ((rR HO_425000)) hb);have n1_:=Aside0.mk (Kd.R_below ((rR HO439)) hb);have n2_:=Aside0.mk (Kd.R_below ((rR HO442)) hb);have n3_:=Aside0.mk (blk_below (bk BK399) hb);have n4_:=Aside0.mk (blk_below (bk BK400) hb);have n5_:=Aside0.mk (blk_below (bk BK409) hb);have n6_:=Aside0.mk (blk_below (bk BK424) hb);have n7_:=Aside0.mk (blk_below (bk BK443) hb);have n8_:=bs hb;clear HO_425000 HO439 HO442 BK399 BK400 BK409 BK424 BK443 HB;have HO_425000:=n0_;have HO439:=n1_;have HO442:=n2_;have BK399:=n3_;have BK400:=n4_;have BK409:=n5_;have BK424:=n6_;have BK443:=n7_;have HB:=n8_;clear n0_ n1_ n2_ n3_ n4_ n5_ n6_ n7_ n8_;(try clear hb);(try clear hb2);(try clear hk);(try clear hi)
                     refine hK.out _ _ ⟨(blk_cell BK399.out 0).trans rfl,(blk_cell BK399.out 1).trans rfl,(blk_cell BK409.out 0).trans rfl,(blk_cell BK409.out 1).trans rfl,(blk_cell BK409.out 2).trans rfl,((HB.out.cell (World.block_lt_of_cell? w _ hw450_0)).trans hw450_0),((HB.out.cell (World.block_lt_of_cell? w _ hw450_1)).trans hw450_1),((HB.out.cell (World.block_lt_of_cell? w _ hw450_2)).trans hw450_2),((HB.out.cell (World.block_lt_of_cell? w _ hw453_0)).trans hw453_0),((HB.out.cell (World.block_lt_of_cell? w _ hw453_1)).trans hw453_1),((HB.out.cell (World.block_lt_of_cell? w _ hw453_2)).trans hw453_2)⟩ (fun hHeld=>?_)
                     clear hK K
                     refine no 146 ?_
                     refine pt 24 147 (fl 34 1073741823) HT_ ?_
                     refine pt 30 153 (fl 34 2147483647) HT_ ?_
                     refine pt 31 154 (fl 34 4294967295) HT_ ?_
                     refine pt 32 155 (fl 34 8589934591) HT_ ?_
                     refine pt 33 156 (fl 34 17179869183) HT_ ?_
                     refine done_ (done_of HT_.out (by kernel_rfl)) ?_
                     try go_wp2
                     go_meet
                     case rel=>exact ⟨_,(decide ((wrap64 ((wrap64 (t451+1)) * t407)) < (wrap64 ((wrap64 (t452+1)) * ((rd_T76 t396 x12_3).f2))))),rd_,H',⟨by have:=HJ5.out;have:=HJ45.out;have:=HK3.out;first|omega|exact Nat.le_refl _⟩,⟨by (with_reducible repeat (first|apply Kd.R_alloc|apply Kd.R_drewN|apply Kd.R_drew));exact Kd.R_mono HO_425000.out (fun _ hk=>hk.2)⟩,⟨by (with_reducible repeat (first|apply Kd.R_alloc|apply Kd.R_drewN|apply Kd.R_drew));exact Kd.R_mono HO442.out (fun _ hk=>hk.1)⟩,⟨bk BK399⟩,⟨bk BK400⟩,⟨bk BK409⟩,⟨bk BK424⟩,⟨bk BK443⟩,⟨be⟩⟩
                    ·rw [if_neg c117] at H
                     have z_:fr_=true:=(show ∀ b_:Bool,¬ ((false == b_)=true)→b_=true by decide) fr_ c117
                     clear c117
                     subst z_





                     have H':=Aside0.mk H
                     clear H
                     try go_wp2
                     have n0_:=Aside0.mk (Kd.R_drew HO_425000.out);have n1_:=Aside0.mk (Kd.R_drew HO439.out);have n2_:=Aside0.mk (Kd.R_drew HO442.out);have n3_:=Aside0.mk (blk_drew BK399.out);have n4_:=Aside0.mk (blk_drew BK400.out);have n5_:=Aside0.mk (blk_drew BK409.out);have n6_:=Aside0.mk (blk_drew BK424.out);have n7_:=Aside0.mk (blk_drew BK443.out);have n8_:=Aside0.mk (below_drew1 HB.out);clear HO_425000 HO439 HO442 BK399 BK400 BK409 BK424 BK443 HB;have HO_425000:=n0_;have HO439:=n1_;have HO442:=n2_;have BK399:=n3_;have BK400:=n4_;have BK409:=n5_;have BK424:=n6_;have BK443:=n7_;have HB:=n8_;clear n0_ n1_ n2_ n3_ n4_ n5_ n6_ n7_ n8_
                     refine start_ (n:=34) (S:=fun w'=>True) (ds:=[]) (fl 34 0) (by kernel_rfl) rfl rfl trivial (fun hHeld=>?_);refine with_tabW laws_FnBest.tab25 laws_FnBest.bits25 (fun HT_ HW_=>?_)
                     generalize w106.drew=w123 at HO_425000 HO439 HO442 BK399 BK400 BK409 BK424 BK443 HB hHeld ⊢
                     refine pt 0 123 (fl 34 1) HT_ ?_
                     refine pt 1 124 (fl 34 3) HT_ ?_
                     refine ut 2 125 (fl 34 7) HT_ ?_
                     refine ut 3 126 (fl 34 15) HT_ ?_
                     refine pt 4 127 (fl 34 31) HT_ ?_
                     refine pt 5 128 (fl 34 63) HT_ ?_
                     refine pt 6 129 (fl 34 127) HT_ ?_
                     refine pt 7 130 (fl 34 255) HT_ ?_
                     refine pt 8 131 (fl 34 511) HT_ ?_
                     refine pt 9 132 (fl 34 1023) HT_ ?_
                     refine ut 10 133 (fl 34 2047) HT_ ?_
                     refine ut 11 134 (fl 34 4095) HT_ ?_
                     refine ut 12 135 (fl 34 8191) HT_ ?_
                     refine ut 13 136 (fl 34 16383) HT_ ?_
                     refine ut 14 137 (fl 34 32767) HT_ ?_
                     refine ut 15 138 (fl 34 65535) HT_ ?_
                     refine ut 16 139 (fl 34 131071) HT_ ?_
                     refine ut 17 140 (fl 34 262143) HT_ ?_
                     refine ut 18 141 (fl 34 524287) HT_ ?_
                     refine ut 19 142 (fl 34 1048575) HT_ ?_
                     refine ut 20 143 (fl 34 2097151) HT_ ?_
                     refine ut 21 144 (fl 34 4194303) HT_ ?_
                     refine ut 22 145 (fl 34 8388607) HT_ ?_
                     refine ut 23 146 (fl 34 16777215) HT_ ?_
                     refine ut 24 147 (fl 34 33554431) HT_ ?_
                     refine ut 25 148 (fl 34 67108863) HT_ ?_
                     refine ut 26 149 (fl 34 134217727) HT_ ?_
                     refine ut 27 150 (fl 34 268435455) HT_ ?_
                     refine ut 28 151 (fl 34 536870911) HT_ ?_
                     refine ut 29 152 (fl 34 1073741823) HT_ ?_
                     refine ut 30 153 (fl 34 2147483647) HT_ ?_
                     refine ut 31 154 (fl 34 4294967295) HT_ ?_
                     refine pt 32 155 (fl 34 8589934591) HT_ ?_
                     refine pt 33 156 (fl 34 17179869183) HT_ ?_
                     refine done_ (done_of HT_.out (by kernel_rfl)) ?_
                     try go_wp2
                     go_meet
                     case rel=>exact ⟨_,(false),rd_,H',⟨by have:=HJ5.out;have:=HJ45.out;have:=HK3.out;first|omega|exact Nat.le_refl _⟩,⟨by (with_reducible repeat (first|apply Kd.R_alloc|apply Kd.R_drewN|apply Kd.R_drew));exact Kd.R_mono HO_425000.out (fun _ hk=>hk.2)⟩,⟨by (with_reducible repeat (first|apply Kd.R_alloc|apply Kd.R_drewN|apply Kd.R_drew));exact Kd.R_mono HO442.out (fun _ hk=>hk.1)⟩,⟨bk BK399⟩,⟨bk BK400⟩,⟨bk BK409⟩,⟨bk BK424⟩,⟨bk BK443⟩,⟨be⟩⟩
                  case rest=>
                   clear HC88
                   try clear c1
                   try clear p2
                   try clear c3
                   try clear p4
                   try clear q4
                   try clear hx4
                   try clear c5
                   try clear p6
                   try clear c11
                   try clear c39
                   try clear p45
                   try clear q45
                   try clear hx45
                   try clear c52
                   try clear p64
                   try clear c117
                   try clear c117b0
                   try clear c117b1
                   try clear c117b2
                   try clear hx450_0
                   try clear hx450_1
                   try clear hx450_2
                   try clear hx453_0
                   try clear hx453_1
                   try clear hx453_2
                   try clear p450
                   try clear p453
                   try clear q450
                   try clear q453
                   obtain ⟨kq,x156_87,rfl,HA,HJ87,HO_425000,HO_444000,BK399,BK400,BK409,BK424,BK443,HB⟩:=hcut
                   cases kq with
                   | zero=>exact absurd HA.out (by simp [laws_FnBest.j4])
                   | succ kj87=>
                    have H:=HA.out
                    clear HA
                    simp only [laws_FnBest.j4] at H
                    by_cases c124:x156_87=true
                    ·subst c124
                     rw [if_pos rfl] at H
                     exact absurd ((Option.some.inj H).trans hr_.out) (by decide)
                    ·replace c124:=Bool.eq_false_iff.mpr c124
                     subst c124
                     replace H:=(if_neg (show ¬ (false=true) by decide)).symm.trans H
                     have H':=Aside0.mk H
                     clear H
                     go_wp2
                     go_roundg kj87
                     case measure=>have:=HJ5.out;have:=HJ45.out;have:=HK3.out;have:=HJ87.out;omega
                     case rel=>exact ⟨(wrap64 (x12_3+1)),rd_,H',⟨by have:=HJ5.out;have:=HJ45.out;have:=HK3.out;have:=HJ87.out;omega⟩,⟨by (with_reducible repeat (first|apply Kd.R_alloc|apply Kd.R_drewN|apply Kd.R_drew));exact Kd.R_mono HO_425000.out (fun _ hk=>trivial)⟩,⟨bk BK399⟩,⟨bk BK400⟩,⟨bk BK409⟩,⟨bk BK424⟩,⟨be⟩⟩
                 ·rw [if_neg c85] at H
                  exact absurd H (by simp)
                ·rw [if_neg c84] at H
                 exact absurd H (by simp)
              ·rw [if_neg c80] at H
               exact absurd H (by simp)
             ·rw [if_neg c79] at H
              have c79b0:decide (x12_3 < (t396.length:Int))=false:=decide_eq_false c79
              clear c79
              obtain rfl:=Option.some.inj H
              go_wp2
              go_ret
              exact ⟨rz,by first|exact below_step HBz_.out be|exact be⟩
       ·rw [if_neg c45] at H
        exact absurd H (by simp)
      ·rw [if_neg c44] at H
       exact absurd H (by simp)
end Go.Proofs.Ytbhllgifciaepaa.PFnBest
