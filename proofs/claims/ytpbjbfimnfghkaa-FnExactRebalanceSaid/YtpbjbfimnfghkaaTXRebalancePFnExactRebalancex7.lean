/- Trimmed by a program of this session (trim.py). Not trusted: Lean checks it. -/
import Derived.Test.YtpbjbfimnfghkaaTXRebalancePFnExactRebalancex0
namespace Go.Proofs.Ytpbjbfimnfghkaa.PFnExactRebalance
open Go.RowKit Go.Proofs.YtpbjbfimnfghkaaW.PrintWords Go.Proofs.YtpbjbfimnfghkaaW.PrintLast Go.Proofs.YtpbjbfimnfghkaaW.PrintMore Go.Proofs.Ytpbjbfimnfghkaa.St
attribute [local go_sem] max2_int min2_int max_two min_two max_three min_three max_four min_four
set_option linter.unusedVariables false
set_option linter.unusedSimpArgs false
def spec_l1In.f (a0:Int) (a1:Int) (a2:Int):Option (Bool):=if a0 ≥ a1 then (some (decide (a0≤a2))) else (some false)
set_option maxHeartbeats 8000000 in
set_option maxRecDepth 100000 in
theorem spec_l1In.calls (a0:Int) (a1:Int) (a2:Int) (r:Bool) (w:World) (h:spec_l1In.f a0 a1 a2=some r) :
  Calls Try.prog 54 #[.int .i64 a0,.int .i64 a1,.int .i64 a2] w fun e w'=>e = .returned (.bool r)∧Drawn0 w w':=by
 have H:(if a0 ≥ a1 then (some (decide (a0≤a2))) else (some false))=some r:=h
 clear h
 by_cases c4:a0 ≥ a1
 ·rw [if_pos c4] at H
  have c4b0:decide (a1≤a0)=true:=decide_eq_true c4
  clear c4
  obtain rfl:=Option.some.inj H
  go_enter Try.func54,Try.ntmps54
  go_wp2
  go_ret
  exact ⟨by first|rfl|(simp;done)|(simp [*];done),by repeat (exact Drawn0.refl _)⟩
 ·rw [if_neg c4] at H
  have c4b0:decide (a1≤a0)=false:=decide_eq_false c4
  clear c4
  obtain rfl:=Option.some.inj H
  go_enter Try.func54,Try.ntmps54
  go_wp2
  go_ret
  exact ⟨by first|rfl|(simp;done)|(simp [*];done),by repeat (exact Drawn0.refl _)⟩
def spec_DevsOk.l0:Nat→List (S61)→Int→Option (Bool)
 | 0,_,_=>none
 | k+1,x0,x3=>if x3 < (x0.length:Int) then (if 0≤x3 then ((spec_l1In.f ((rd_T61 x0 x3).f0) 0 20).bind fun t237=>(if t237=true then ((spec_l1In.f ((rd_T61 x0 x3).f1) 0 20).bind fun t238=>(if t238=true then ((spec_l1In.f ((rd_T61 x0 x3).f2) 1 1000).bind fun t239=>(if t239=true then (if x3 > 0 then (if 0≤(wrap64 (x3 - 1)) then (if (wrap64 (x3 - 1)) < (x0.length:Int) then (if ((rd_T61 x0 (wrap64 (x3 - 1))).f0) ≥ ((rd_T61 x0 x3).f0) then (some false) else (spec_DevsOk.l0 k x0 (wrap64 (x3+1)))) else (none)) else (none)) else (spec_DevsOk.l0 k x0 (wrap64 (x3+1)))) else (some false))) else (some false))) else (some false))) else (none)) else ((spec_l1In.f (x0.length:Int) 1 12).bind fun t234=>(some t234))
def spec_DevsOk.f (k:Nat) (l0:List (S61)):Option (Bool):=spec_DevsOk.l0 k l0 0
def spec_DevsOk.T5:Bool × List (List Nat × List Nat):=(true,[([],[]),([0],[0]),([1],[1]),([2],[2]),([3,2],[3]),([4],[4]),([5,4],[4,5]),([6,4,4],[4,6]),([7,4],[4,7]),([4,8],[4,8]),([9,7],[9]),([10],[10]),([11,10],[10,11]),([12,10,10],[10,12]),([13,10],[10,13]),([10,14],[10,14]),([15,13],[15]),([16],[16]),([17,16],[16,17]),([18,16,16],[16,18]),([19],[19]),([19],[19]),([21,19],[19,21]),([20,22,19],[19,20,22]),([23,19],[19,23]),([24,19],[19,24]),([19],[19]),([26,19],[19,26]),([25,27,19],[19,25,27]),([19,28,16],[16,19,28]),([16,29],[16,29])])
def spec_DevsOk.B5:List Nat:=[0,1,3,7,15,31,63,127,255,511,1023,2047,4095,8191,16383,32767,65535,131071,262143,524287,1048575,1048575,3145727,8388607,16777215,33554431,1048575,68157439,268435455,536870911,1073741823]
theorem spec_DevsOk.tab5:rtab .any (opsOf Try.f53 5)=spec_DevsOk.T5:=by kernel_rfl
theorem spec_DevsOk.bits5:waitsOk spec_DevsOk.T5.2 spec_DevsOk.B5=true:=by kernel_rfl
set_option maxHeartbeats 8000000 in
set_option maxRecDepth 100000 in
theorem spec_DevsOk.calls (k:Nat) (A0:Option Addr) (c0:Nat) (l0:List (S61)) (r:Bool) (w:World) (hr0:Kd.C k61 w A0 l0.length l0) (hc0:l0.length≤c0) (h:spec_DevsOk.f k l0=some r) :
  Calls Try.prog 53 #[.slice A0 l0.length c0] w fun e w'=>e = .returned (.bool r)∧Below w.heap.size w w':=by
 have hu61:=Try.underlying61
 have HR0:=aM hr0
 have HC0:=aM hc0
 clear hr0 hc0
 have HB:=aM (Below.refl w.heap.size w)
 have H:(spec_DevsOk.l0 k l0 0)=some r:=h
 clear h
 have H':=Aside0.mk H
 clear H
 go_enter Try.func53,Try.ntmps53
 go_wp2
 go_loopg [3] k (fun kq v3 w'=>∃ (x3_1:Int),v3 = .int .i64 x3_1∧Aside0 (spec_DevsOk.l0 kq l0 x3_1=some r)∧Aside0 (kq≤k)∧Aside0 (Below w.heap.size w w'))
 case atStart=>exact ⟨(0),rd_,H',⟨Nat.le_refl _⟩,⟨be⟩⟩
 case round=>
  clear H'
  obtain ⟨x3_1,rfl,HA,HK1,HB⟩:=hrel
  cases gk with
  | zero=>exact absurd HA.out (by simp [spec_DevsOk.l0])
  | succ k1=>
   have H:=HA.out
   clear HA
   simp only [spec_DevsOk.l0] at H
   by_cases c2:x3_1 < (l0.length:Int)
   ·rw [if_pos c2] at H
    have c2b0:decide (x3_1 < (l0.length:Int))=true:=decide_eq_true c2
    clear c2
    by_cases c3:0≤x3_1
    ·rw [if_pos c3] at H
     have c3b0:decide (0≤x3_1)=true:=decide_eq_true c3
     clear c3
     replace H:=Option.bind_eq_some_iff.mp H
     obtain ⟨t237,A40,H⟩:=H
     try dsimp only at H
     have A4:=aM A40
     clear A40
     by_cases c5:t237=true
     ·subst c5
      rw [if_pos rfl] at H
      replace H:=Option.bind_eq_some_iff.mp H
      obtain ⟨t238,A60,H⟩:=H
      try dsimp only at H
      have A6:=aM A60
      clear A60
      by_cases c7:t238=true
      ·subst c7
       rw [if_pos rfl] at H
       replace H:=Option.bind_eq_some_iff.mp H
       obtain ⟨t239,A80,H⟩:=H
       try dsimp only at H
       have A8:=aM A80
       clear A80
       by_cases c9:t239=true
       ·subst c9
        rw [if_pos rfl] at H
        by_cases c10:x3_1 > 0
        ·rw [if_pos c10] at H
         have c10b0:decide (0 < x3_1)=true:=decide_eq_true c10
         clear c10
         obtain ⟨ji11,hji11⟩ : ∃ j_:Int,(wrap64 (x3_1 - 1))=j_:=⟨_,rfl⟩
         replace H:(if 0≤(ji11) then (if (ji11) < (l0.length:Int) then (if ((rd_T61 l0 (ji11)).f0) ≥ ((rd_T61 l0 x3_1).f0) then (some false) else (spec_DevsOk.l0 k1 l0 (wrap64 (x3_1+1)))) else (none)) else (none))=some r:=by first|(rw [hji11] at H;exact H)|(simp only [hji11] at H ⊢;exact H)
         (try rw [hji11] at A4)
         (try rw [hji11] at A6)
         (try rw [hji11] at A8)
         have hji11w:(IntKind.i64.wrap (x3_1 - 1))=ji11:=(i64_w _).trans hji11
         by_cases c12:0≤(ji11)
         ·rw [if_pos c12] at H
          have c12b0:decide (0≤(ji11))=true:=decide_eq_true c12
          clear c12
          by_cases c13:(ji11) < (l0.length:Int)
          ·rw [if_pos c13] at H
           have c13b0:decide ((ji11) < (l0.length:Int))=true:=decide_eq_true c13
           clear c13
           by_cases c14:((rd_T61 l0 (ji11)).f0) ≥ ((rd_T61 l0 x3_1).f0)
           ·rw [if_pos c14] at H
            have c14b0:decide (((rd_T61 l0 x3_1).f0)≤((rd_T61 l0 (ji11)).f0))=true:=decide_eq_true c14
            clear c14
            obtain rfl:=Option.some.inj H
            have p235:0≤(x3_1:Int):=of_decide_eq_true (by first|(with_reducible assumption)|assumption)
            have q235:x3_1 < (l0.length:Int):=of_decide_eq_true (by first|(with_reducible assumption)|assumption)
            obtain ⟨ad235,e235,hx235_0,hx235_1,hx235_2⟩:=at_T61 HR0.out x3_1 p235 q235
            cases e235
            replace hx235_0:=(HB.out.cell (World.block_lt_of_cell? w _ hx235_0)).trans hx235_0
            replace hx235_1:=(HB.out.cell (World.block_lt_of_cell? w _ hx235_1)).trans hx235_1
            replace hx235_2:=(HB.out.cell (World.block_lt_of_cell? w _ hx235_2)).trans hx235_2
            replace p235:=eq_true p235
            replace q235:=eq_true q235
            try go_wp2_with ((with_reducible refine gate_dst (N:=4) rfl ?_);refine box_event ?hg (N:=4) ?hd (cs:=#[.int .i64 0,.int .i64 0,.int .i64 0]) (t:=61) ?hr ?_;(case hd=>rfl);(case hg=>rfl);(case hr=>first|(go_simp;done)|(go_simp;rfl));intro gb236 hg w15 hbox hb;have BK236:=aM (hbox);have GW236:=gS w hg;have GE236:=gS w hg;replace HB:=bs hb;clear hb hbox hg;have hcz16_0:w15.cell? ⟨gb236,0,none⟩=some (.int .i64 0):=(blk_cell BK236.out 0).trans rfl;have hcz16_1:w15.cell? ⟨gb236,1,none⟩=some (.int .i64 0):=(blk_cell BK236.out 1).trans rfl;have hcz16_2:w15.cell? ⟨gb236,2,none⟩=some (.int .i64 0):=(blk_cell BK236.out 2).trans rfl;have hfz16_0:=blk_frozen BK236.out 0;have hfz16_1:=blk_frozen BK236.out 1;have hfz16_2:=blk_frozen BK236.out 2)
            have n0_:Aside0 ((((w15.setCell ⟨gb236,0,none⟩ (.int .i64 ((rd_T61 l0 x3_1).f0))).setCell ⟨gb236,1,none⟩ (.int .i64 ((rd_T61 l0 x3_1).f1))).setCell ⟨gb236,2,none⟩ (.int .i64 ((rd_T61 l0 x3_1).f2))).heap[gb236]?=some (.cells #[.int .i64 ((rd_T61 l0 x3_1).f0),.int .i64 ((rd_T61 l0 x3_1).f1),.int .i64 ((rd_T61 l0 x3_1).f2)] 61 (0,0))):=⟨by (with_reducible repeat (first|refine blk_drewN ?_ _|refine blk_drew ?_|refine blk_alloc ?_ _));refine blk_put (cs:=#[.int .i64 ((rd_T61 l0 x3_1).f0),.int .i64 ((rd_T61 l0 x3_1).f1),.int .i64 0]) ?_ 2 _ rfl;(with_reducible repeat (first|refine blk_drewN ?_ _|refine blk_drew ?_|refine blk_alloc ?_ _));refine blk_put (cs:=#[.int .i64 ((rd_T61 l0 x3_1).f0),.int .i64 0,.int .i64 0]) ?_ 1 _ rfl;(with_reducible repeat (first|refine blk_drewN ?_ _|refine blk_drew ?_|refine blk_alloc ?_ _));refine blk_put (cs:=#[.int .i64 0,.int .i64 0,.int .i64 0]) ?_ 0 _ rfl;(with_reducible repeat (first|refine blk_drewN ?_ _|refine blk_drew ?_|refine blk_alloc ?_ _));exact BK236.out⟩
            have n1_:Aside0 (Below w.heap.size w (((w15.setCell ⟨gb236,0,none⟩ (.int .i64 ((rd_T61 l0 x3_1).f0))).setCell ⟨gb236,1,none⟩ (.int .i64 ((rd_T61 l0 x3_1).f1))).setCell ⟨gb236,2,none⟩ (.int .i64 ((rd_T61 l0 x3_1).f2)))):=⟨be⟩
            (try clear BK236);(try clear HB)
            generalize (((w15.setCell ⟨gb236,0,none⟩ (.int .i64 ((rd_T61 l0 x3_1).f0))).setCell ⟨gb236,1,none⟩ (.int .i64 ((rd_T61 l0 x3_1).f1))).setCell ⟨gb236,2,none⟩ (.int .i64 ((rd_T61 l0 x3_1).f2)))=w17 at n0_ n1_ ⊢
            have BK236:=n0_;have HB:=n1_;clear n0_ n1_;replace BK236:=aM (blk_drew BK236.out);replace HB:=aM (below_drew1 HB.out)
            have p240:0≤((ji11):Int):=of_decide_eq_true (by first|(with_reducible assumption)|assumption)
            have q240:(ji11) < (l0.length:Int):=of_decide_eq_true (by first|(with_reducible assumption)|assumption)
            obtain ⟨ad240,e240,hx240_0,hx240_1,hx240_2⟩:=at_T61 HR0.out (ji11) p240 q240
            have hw240_2:=hx240_2;have hw240_1:=hx240_1;have hw240_0:=hx240_0
            obtain rfl:ad235=ad240:=(by injection e240)
            replace hx240_0:=(HB.out.cell (World.block_lt_of_cell? w _ hx240_0)).trans hx240_0
            replace hx240_1:=(HB.out.cell (World.block_lt_of_cell? w _ hx240_1)).trans hx240_1
            replace hx240_2:=(HB.out.cell (World.block_lt_of_cell? w _ hx240_2)).trans hx240_2
            replace p240:=eq_true p240
            replace q240:=eq_true q240
            refine start_ (n:=31) (S:=fun w'=>w'.cell? ⟨gb236,0,none⟩=some (.int .i64 ((rd_T61 l0 x3_1).f0))∧w'.cell? ⟨gb236,1,none⟩=some (.int .i64 ((rd_T61 l0 x3_1).f1))∧w'.cell? ⟨gb236,2,none⟩=some (.int .i64 ((rd_T61 l0 x3_1).f2))∧w'.cell? (ad235.add (((ji11)).toNat * 3))=some (.int .i64 ((rd_T61 l0 (ji11)).f0))∧w'.cell? ⟨(ad235.add (((ji11)).toNat * 3)).block,(ad235.add (((ji11)).toNat * 3)).off+1,none⟩=some (.int .i64 ((rd_T61 l0 (ji11)).f1))∧w'.cell? ⟨(ad235.add (((ji11)).toNat * 3)).block,(ad235.add (((ji11)).toNat * 3)).off+2,none⟩=some (.int .i64 ((rd_T61 l0 (ji11)).f2))) (ds:=[]) (fl 31 0) (by kernel_rfl) rfl rfl ⟨(blk_cell BK236.out 0).trans rfl,(blk_cell BK236.out 1).trans rfl,(blk_cell BK236.out 2).trans rfl,((HB.out.cell (World.block_lt_of_cell? w _ hw240_0)).trans hw240_0),((HB.out.cell (World.block_lt_of_cell? w _ hw240_1)).trans hw240_1),((HB.out.cell (World.block_lt_of_cell? w _ hw240_2)).trans hw240_2)⟩ (fun hHeld=>?_);refine with_tabW spec_DevsOk.tab5 spec_DevsOk.bits5 (fun HT_ HW_=>?_)
            generalize w17.drew=w18 at BK236 HB hx240_0 hx240_1 hx240_2 hHeld ⊢
            refine pt 0 15 (fl 31 1) HT_ ?_
            refine tt 1 16 (fl 31 3) HT_ HW_ hHeld ?_
            refine ot 2 (some 17) (fl 31 7) HT_ (fun K hK=>?_)
            refine goes_ Try.func54 (by kernel_rfl) rfl #[.int .i64 ((rd_T61 l0 x3_1).f0),.int .i64 0,.int .i64 20] (by rfl) rfl rfl (by (try simp only [List.map_toArray,List.map_cons,List.map_nil]);first|done|rfl|(simp only [List.length_drop,List.length_take];rfl)) ?_
            with_reducible refine (spec_l1In.calls ((rd_T61 l0 x3_1).f0) 0 20 true _ A4.out).mono ?_
            rintro e w' ⟨rfl,⟨nd,rfl⟩⟩
            refine ⟨_,rfl,?_⟩
            refine hK.out _ _ ⟨(blk_cell BK236.out 0).trans rfl,(blk_cell BK236.out 1).trans rfl,(blk_cell BK236.out 2).trans rfl,((HB.out.cell (World.block_lt_of_cell? w _ hw240_0)).trans hw240_0),((HB.out.cell (World.block_lt_of_cell? w _ hw240_1)).trans hw240_1),((HB.out.cell (World.block_lt_of_cell? w _ hw240_2)).trans hw240_2)⟩ (fun hHeld=>?_)
            clear hK K
            refine no 17 ?_
            refine pt 3 18 (fl 31 15) HT_ ?_
            refine pt 4 19 (fl 31 31) HT_ ?_
            refine pt 5 20 (fl 31 63) HT_ ?_
            refine tt 6 21 (fl 31 127) HT_ HW_ hHeld ?_
            refine ot 7 (some 22) (fl 31 255) HT_ (fun K hK=>?_)
            refine goes_ Try.func54 (by kernel_rfl) rfl #[.int .i64 ((rd_T61 l0 x3_1).f1),.int .i64 0,.int .i64 20] (by rfl) rfl rfl (by (try simp only [List.map_toArray,List.map_cons,List.map_nil]);first|done|rfl|(simp only [List.length_drop,List.length_take];rfl)) ?_
            with_reducible refine (spec_l1In.calls ((rd_T61 l0 x3_1).f1) 0 20 true _ A6.out).mono ?_
            rintro e w' ⟨rfl,⟨nd,rfl⟩⟩
            refine ⟨_,rfl,?_⟩
            refine hK.out _ _ ⟨(blk_cell BK236.out 0).trans rfl,(blk_cell BK236.out 1).trans rfl,(blk_cell BK236.out 2).trans rfl,((HB.out.cell (World.block_lt_of_cell? w _ hw240_0)).trans hw240_0),((HB.out.cell (World.block_lt_of_cell? w _ hw240_1)).trans hw240_1),((HB.out.cell (World.block_lt_of_cell? w _ hw240_2)).trans hw240_2)⟩ (fun hHeld=>?_)
            clear hK K
            refine no 22 ?_
            refine pt 8 23 (fl 31 511) HT_ ?_
            refine pt 9 24 (fl 31 1023) HT_ ?_
            refine pt 10 25 (fl 31 2047) HT_ ?_
            refine pt 11 26 (fl 31 4095) HT_ ?_
            refine tt 12 27 (fl 31 8191) HT_ HW_ hHeld ?_
            refine ot 13 (some 28) (fl 31 16383) HT_ (fun K hK=>?_)
            refine goes_ Try.func54 (by kernel_rfl) rfl #[.int .i64 ((rd_T61 l0 x3_1).f2),.int .i64 1,.int .i64 1000] (by rfl) rfl rfl (by (try simp only [List.map_toArray,List.map_cons,List.map_nil]);first|done|rfl|(simp only [List.length_drop,List.length_take];rfl)) ?_
            with_reducible refine (spec_l1In.calls ((rd_T61 l0 x3_1).f2) 1 1000 true _ A8.out).mono ?_
            rintro e w' ⟨rfl,⟨nd,rfl⟩⟩
            refine ⟨_,rfl,?_⟩
            refine hK.out _ _ ⟨(blk_cell BK236.out 0).trans rfl,(blk_cell BK236.out 1).trans rfl,(blk_cell BK236.out 2).trans rfl,((HB.out.cell (World.block_lt_of_cell? w _ hw240_0)).trans hw240_0),((HB.out.cell (World.block_lt_of_cell? w _ hw240_1)).trans hw240_1),((HB.out.cell (World.block_lt_of_cell? w _ hw240_2)).trans hw240_2)⟩ (fun hHeld=>?_)
            clear hK K
            refine no 28 ?_
            refine pt 14 29 (fl 31 32767) HT_ ?_
            refine pt 15 30 (fl 31 65535) HT_ ?_
            refine pt 16 31 (fl 31 131071) HT_ ?_
            refine pt 17 32 (fl 31 262143) HT_ ?_
            refine pt 18 33 (fl 31 524287) HT_ ?_
            refine pt 19 34 (fl 31 1048575) HT_ ?_
            refine pt 20 35 (fl 31 2097151) HT_ ?_
            refine pt 21 36 (fl 31 4194303) HT_ ?_
            refine pt 22 37 (fl 31 8388607) HT_ ?_
            refine pt 23 38 (fl 31 16777215) HT_ ?_
            refine pt 24 39 (fl 31 33554431) HT_ ?_
            refine pt 26 41 (fl 31 100663295) HT_ ?_
            refine tt 25 40 (fl 31 134217727) HT_ HW_ hHeld ?_
            refine tt 27 42 (fl 31 268435455) HT_ HW_ hHeld ?_
            refine pt 28 43 (fl 31 536870911) HT_ ?_
            refine pt 29 44 (fl 31 1073741823) HT_ ?_
            refine pt 30 45 (fl 31 2147483647) HT_ ?_
            refine done_ (done_of HT_.out (by kernel_rfl)) ?_
            try go_wp2
            go_ret
            exact ⟨by first|rfl|(simp [errW_none,errW_some] <;> rfl)|(simp only [← hji11];first|rfl|(simp [errW_none,errW_some] <;> rfl))|(simp [*,errW_none,errW_some] <;> rfl),be⟩
           ·rw [if_neg c14] at H
            have c14b0:decide (((rd_T61 l0 x3_1).f0)≤((rd_T61 l0 (ji11)).f0))=false:=decide_eq_false c14
            clear c14
            have H':=Aside0.mk H
            clear H
            have p235:0≤(x3_1:Int):=of_decide_eq_true (by first|(with_reducible assumption)|assumption)
            have q235:x3_1 < (l0.length:Int):=of_decide_eq_true (by first|(with_reducible assumption)|assumption)
            obtain ⟨ad235,e235,hx235_0,hx235_1,hx235_2⟩:=at_T61 HR0.out x3_1 p235 q235
            cases e235
            replace hx235_0:=(HB.out.cell (World.block_lt_of_cell? w _ hx235_0)).trans hx235_0
            replace hx235_1:=(HB.out.cell (World.block_lt_of_cell? w _ hx235_1)).trans hx235_1
            replace hx235_2:=(HB.out.cell (World.block_lt_of_cell? w _ hx235_2)).trans hx235_2
            replace p235:=eq_true p235
            replace q235:=eq_true q235
            try go_wp2_with ((with_reducible refine gate_dst (N:=4) rfl ?_);refine box_event ?hg (N:=4) ?hd (cs:=#[.int .i64 0,.int .i64 0,.int .i64 0]) (t:=61) ?hr ?_;(case hd=>rfl);(case hg=>rfl);(case hr=>first|(go_simp;done)|(go_simp;rfl));intro gb236 hg w19 hbox hb;have BK236:=aM (hbox);have GW236:=gS w hg;have GE236:=gS w hg;replace HB:=bs hb;clear hb hbox hg;have hcz20_0:w19.cell? ⟨gb236,0,none⟩=some (.int .i64 0):=(blk_cell BK236.out 0).trans rfl;have hcz20_1:w19.cell? ⟨gb236,1,none⟩=some (.int .i64 0):=(blk_cell BK236.out 1).trans rfl;have hcz20_2:w19.cell? ⟨gb236,2,none⟩=some (.int .i64 0):=(blk_cell BK236.out 2).trans rfl;have hfz20_0:=blk_frozen BK236.out 0;have hfz20_1:=blk_frozen BK236.out 1;have hfz20_2:=blk_frozen BK236.out 2)
            have n0_:Aside0 ((((w19.setCell ⟨gb236,0,none⟩ (.int .i64 ((rd_T61 l0 x3_1).f0))).setCell ⟨gb236,1,none⟩ (.int .i64 ((rd_T61 l0 x3_1).f1))).setCell ⟨gb236,2,none⟩ (.int .i64 ((rd_T61 l0 x3_1).f2))).heap[gb236]?=some (.cells #[.int .i64 ((rd_T61 l0 x3_1).f0),.int .i64 ((rd_T61 l0 x3_1).f1),.int .i64 ((rd_T61 l0 x3_1).f2)] 61 (0,0))):=⟨by (with_reducible repeat (first|refine blk_drewN ?_ _|refine blk_drew ?_|refine blk_alloc ?_ _));refine blk_put (cs:=#[.int .i64 ((rd_T61 l0 x3_1).f0),.int .i64 ((rd_T61 l0 x3_1).f1),.int .i64 0]) ?_ 2 _ rfl;(with_reducible repeat (first|refine blk_drewN ?_ _|refine blk_drew ?_|refine blk_alloc ?_ _));refine blk_put (cs:=#[.int .i64 ((rd_T61 l0 x3_1).f0),.int .i64 0,.int .i64 0]) ?_ 1 _ rfl;(with_reducible repeat (first|refine blk_drewN ?_ _|refine blk_drew ?_|refine blk_alloc ?_ _));refine blk_put (cs:=#[.int .i64 0,.int .i64 0,.int .i64 0]) ?_ 0 _ rfl;(with_reducible repeat (first|refine blk_drewN ?_ _|refine blk_drew ?_|refine blk_alloc ?_ _));exact BK236.out⟩
            have n1_:Aside0 (Below w.heap.size w (((w19.setCell ⟨gb236,0,none⟩ (.int .i64 ((rd_T61 l0 x3_1).f0))).setCell ⟨gb236,1,none⟩ (.int .i64 ((rd_T61 l0 x3_1).f1))).setCell ⟨gb236,2,none⟩ (.int .i64 ((rd_T61 l0 x3_1).f2)))):=⟨be⟩
            (try clear BK236);(try clear HB)
            generalize (((w19.setCell ⟨gb236,0,none⟩ (.int .i64 ((rd_T61 l0 x3_1).f0))).setCell ⟨gb236,1,none⟩ (.int .i64 ((rd_T61 l0 x3_1).f1))).setCell ⟨gb236,2,none⟩ (.int .i64 ((rd_T61 l0 x3_1).f2)))=w21 at n0_ n1_ ⊢
            have BK236:=n0_;have HB:=n1_;clear n0_ n1_;replace BK236:=aM (blk_drew BK236.out);replace HB:=aM (below_drew1 HB.out)
            have p240:0≤((ji11):Int):=of_decide_eq_true (by first|(with_reducible assumption)|assumption)
            have q240:(ji11) < (l0.length:Int):=of_decide_eq_true (by first|(with_reducible assumption)|assumption)
            obtain ⟨ad240,e240,hx240_0,hx240_1,hx240_2⟩:=at_T61 HR0.out (ji11) p240 q240
            have hw240_2:=hx240_2;have hw240_1:=hx240_1;have hw240_0:=hx240_0
            obtain rfl:ad235=ad240:=(by injection e240)
            replace hx240_0:=(HB.out.cell (World.block_lt_of_cell? w _ hx240_0)).trans hx240_0
            replace hx240_1:=(HB.out.cell (World.block_lt_of_cell? w _ hx240_1)).trans hx240_1
            replace hx240_2:=(HB.out.cell (World.block_lt_of_cell? w _ hx240_2)).trans hx240_2
            replace p240:=eq_true p240
            replace q240:=eq_true q240
            refine start_ (n:=31) (S:=fun w'=>w'.cell? ⟨gb236,0,none⟩=some (.int .i64 ((rd_T61 l0 x3_1).f0))∧w'.cell? ⟨gb236,1,none⟩=some (.int .i64 ((rd_T61 l0 x3_1).f1))∧w'.cell? ⟨gb236,2,none⟩=some (.int .i64 ((rd_T61 l0 x3_1).f2))∧w'.cell? (ad235.add (((ji11)).toNat * 3))=some (.int .i64 ((rd_T61 l0 (ji11)).f0))∧w'.cell? ⟨(ad235.add (((ji11)).toNat * 3)).block,(ad235.add (((ji11)).toNat * 3)).off+1,none⟩=some (.int .i64 ((rd_T61 l0 (ji11)).f1))∧w'.cell? ⟨(ad235.add (((ji11)).toNat * 3)).block,(ad235.add (((ji11)).toNat * 3)).off+2,none⟩=some (.int .i64 ((rd_T61 l0 (ji11)).f2))) (ds:=[]) (fl 31 0) (by kernel_rfl) rfl rfl ⟨(blk_cell BK236.out 0).trans rfl,(blk_cell BK236.out 1).trans rfl,(blk_cell BK236.out 2).trans rfl,((HB.out.cell (World.block_lt_of_cell? w _ hw240_0)).trans hw240_0),((HB.out.cell (World.block_lt_of_cell? w _ hw240_1)).trans hw240_1),((HB.out.cell (World.block_lt_of_cell? w _ hw240_2)).trans hw240_2)⟩ (fun hHeld=>?_);refine with_tabW spec_DevsOk.tab5 spec_DevsOk.bits5 (fun HT_ HW_=>?_)
            generalize w21.drew=w22 at BK236 HB hx240_0 hx240_1 hx240_2 hHeld ⊢
            refine pt 0 15 (fl 31 1) HT_ ?_
            refine tt 1 16 (fl 31 3) HT_ HW_ hHeld ?_
            refine ot 2 (some 17) (fl 31 7) HT_ (fun K hK=>?_)
            refine goes_ Try.func54 (by kernel_rfl) rfl #[.int .i64 ((rd_T61 l0 x3_1).f0),.int .i64 0,.int .i64 20] (by rfl) rfl rfl (by (try simp only [List.map_toArray,List.map_cons,List.map_nil]);first|done|rfl|(simp only [List.length_drop,List.length_take];rfl)) ?_
            with_reducible refine (spec_l1In.calls ((rd_T61 l0 x3_1).f0) 0 20 true _ A4.out).mono ?_
            rintro e w' ⟨rfl,⟨nd,rfl⟩⟩
            refine ⟨_,rfl,?_⟩
            refine hK.out _ _ ⟨(blk_cell BK236.out 0).trans rfl,(blk_cell BK236.out 1).trans rfl,(blk_cell BK236.out 2).trans rfl,((HB.out.cell (World.block_lt_of_cell? w _ hw240_0)).trans hw240_0),((HB.out.cell (World.block_lt_of_cell? w _ hw240_1)).trans hw240_1),((HB.out.cell (World.block_lt_of_cell? w _ hw240_2)).trans hw240_2)⟩ (fun hHeld=>?_)
            clear hK K
            refine no 17 ?_
            refine pt 3 18 (fl 31 15) HT_ ?_
            refine pt 4 19 (fl 31 31) HT_ ?_
            refine pt 5 20 (fl 31 63) HT_ ?_
            refine tt 6 21 (fl 31 127) HT_ HW_ hHeld ?_
            refine ot 7 (some 22) (fl 31 255) HT_ (fun K hK=>?_)
            refine goes_ Try.func54 (by kernel_rfl) rfl #[.int .i64 ((rd_T61 l0 x3_1).f1),.int .i64 0,.int .i64 20] (by rfl) rfl rfl (by (try simp only [List.map_toArray,List.map_cons,List.map_nil]);first|done|rfl|(simp only [List.length_drop,List.length_take];rfl)) ?_
            with_reducible refine (spec_l1In.calls ((rd_T61 l0 x3_1).f1) 0 20 true _ A6.out).mono ?_
            rintro e w' ⟨rfl,⟨nd,rfl⟩⟩
            refine ⟨_,rfl,?_⟩
            refine hK.out _ _ ⟨(blk_cell BK236.out 0).trans rfl,(blk_cell BK236.out 1).trans rfl,(blk_cell BK236.out 2).trans rfl,((HB.out.cell (World.block_lt_of_cell? w _ hw240_0)).trans hw240_0),((HB.out.cell (World.block_lt_of_cell? w _ hw240_1)).trans hw240_1),((HB.out.cell (World.block_lt_of_cell? w _ hw240_2)).trans hw240_2)⟩ (fun hHeld=>?_)
            clear hK K
            refine no 22 ?_
            refine pt 8 23 (fl 31 511) HT_ ?_
            refine pt 9 24 (fl 31 1023) HT_ ?_
            refine pt 10 25 (fl 31 2047) HT_ ?_
            refine pt 11 26 (fl 31 4095) HT_ ?_
            refine tt 12 27 (fl 31 8191) HT_ HW_ hHeld ?_
            refine ot 13 (some 28) (fl 31 16383) HT_ (fun K hK=>?_)
            refine goes_ Try.func54 (by kernel_rfl) rfl #[.int .i64 ((rd_T61 l0 x3_1).f2),.int .i64 1,.int .i64 1000] (by rfl) rfl rfl (by (try simp only [List.map_toArray,List.map_cons,List.map_nil]);first|done|rfl|(simp only [List.length_drop,List.length_take];rfl)) ?_
            with_reducible refine (spec_l1In.calls ((rd_T61 l0 x3_1).f2) 1 1000 true _ A8.out).mono ?_
            rintro e w' ⟨rfl,⟨nd,rfl⟩⟩
            refine ⟨_,rfl,?_⟩
            refine hK.out _ _ ⟨(blk_cell BK236.out 0).trans rfl,(blk_cell BK236.out 1).trans rfl,(blk_cell BK236.out 2).trans rfl,((HB.out.cell (World.block_lt_of_cell? w _ hw240_0)).trans hw240_0),((HB.out.cell (World.block_lt_of_cell? w _ hw240_1)).trans hw240_1),((HB.out.cell (World.block_lt_of_cell? w _ hw240_2)).trans hw240_2)⟩ (fun hHeld=>?_)
            clear hK K
            refine no 28 ?_
            refine pt 14 29 (fl 31 32767) HT_ ?_
            refine pt 15 30 (fl 31 65535) HT_ ?_
            refine pt 16 31 (fl 31 131071) HT_ ?_
            refine pt 17 32 (fl 31 262143) HT_ ?_
            refine pt 18 33 (fl 31 524287) HT_ ?_
            refine pt 19 34 (fl 31 1048575) HT_ ?_
            refine pt 20 35 (fl 31 2097151) HT_ ?_
            refine pt 21 36 (fl 31 4194303) HT_ ?_
            refine pt 22 37 (fl 31 8388607) HT_ ?_
            refine pt 23 38 (fl 31 16777215) HT_ ?_
            refine pt 24 39 (fl 31 33554431) HT_ ?_
            refine pt 26 41 (fl 31 100663295) HT_ ?_
            refine tt 25 40 (fl 31 134217727) HT_ HW_ hHeld ?_
            refine tt 27 42 (fl 31 268435455) HT_ HW_ hHeld ?_
            refine pt 28 43 (fl 31 536870911) HT_ ?_
            refine pt 29 44 (fl 31 1073741823) HT_ ?_
            refine pt 30 45 (fl 31 2147483647) HT_ ?_
            refine done_ (done_of HT_.out (by kernel_rfl)) ?_
            try go_wp2
            go_roundg k1
            case measure=>have:=HK1.out;omega
            case rel=>exact ⟨(wrap64 (x3_1+1)),rd_,H',⟨by have:=HK1.out;omega⟩,⟨be⟩⟩
          ·rw [if_neg c13] at H
           exact absurd H (by simp)
         ·rw [if_neg c12] at H
          exact absurd H (by simp)
        ·rw [if_neg c10] at H
         have c10b0:decide (0 < x3_1)=false:=decide_eq_false c10
         clear c10
         have H':=Aside0.mk H
         clear H
         have p235:0≤(x3_1:Int):=of_decide_eq_true (by first|(with_reducible assumption)|assumption)
         have q235:x3_1 < (l0.length:Int):=of_decide_eq_true (by first|(with_reducible assumption)|assumption)
         obtain ⟨ad235,e235,hx235_0,hx235_1,hx235_2⟩:=at_T61 HR0.out x3_1 p235 q235
         cases e235
         replace hx235_0:=(HB.out.cell (World.block_lt_of_cell? w _ hx235_0)).trans hx235_0
         replace hx235_1:=(HB.out.cell (World.block_lt_of_cell? w _ hx235_1)).trans hx235_1
         replace hx235_2:=(HB.out.cell (World.block_lt_of_cell? w _ hx235_2)).trans hx235_2
         replace p235:=eq_true p235
         replace q235:=eq_true q235
         try go_wp2_with ((with_reducible refine gate_dst (N:=4) rfl ?_);refine box_event ?hg (N:=4) ?hd (cs:=#[.int .i64 0,.int .i64 0,.int .i64 0]) (t:=61) ?hr ?_;(case hd=>rfl);(case hg=>rfl);(case hr=>first|(go_simp;done)|(go_simp;rfl));intro gb236 hg w23 hbox hb;have BK236:=aM (hbox);have GW236:=gS w hg;have GE236:=gS w hg;replace HB:=bs hb;clear hb hbox hg;have hcz24_0:w23.cell? ⟨gb236,0,none⟩=some (.int .i64 0):=(blk_cell BK236.out 0).trans rfl;have hcz24_1:w23.cell? ⟨gb236,1,none⟩=some (.int .i64 0):=(blk_cell BK236.out 1).trans rfl;have hcz24_2:w23.cell? ⟨gb236,2,none⟩=some (.int .i64 0):=(blk_cell BK236.out 2).trans rfl;have hfz24_0:=blk_frozen BK236.out 0;have hfz24_1:=blk_frozen BK236.out 1;have hfz24_2:=blk_frozen BK236.out 2)
         have n0_:Aside0 ((((w23.setCell ⟨gb236,0,none⟩ (.int .i64 ((rd_T61 l0 x3_1).f0))).setCell ⟨gb236,1,none⟩ (.int .i64 ((rd_T61 l0 x3_1).f1))).setCell ⟨gb236,2,none⟩ (.int .i64 ((rd_T61 l0 x3_1).f2))).heap[gb236]?=some (.cells #[.int .i64 ((rd_T61 l0 x3_1).f0),.int .i64 ((rd_T61 l0 x3_1).f1),.int .i64 ((rd_T61 l0 x3_1).f2)] 61 (0,0))):=⟨by (with_reducible repeat (first|refine blk_drewN ?_ _|refine blk_drew ?_|refine blk_alloc ?_ _));refine blk_put (cs:=#[.int .i64 ((rd_T61 l0 x3_1).f0),.int .i64 ((rd_T61 l0 x3_1).f1),.int .i64 0]) ?_ 2 _ rfl;(with_reducible repeat (first|refine blk_drewN ?_ _|refine blk_drew ?_|refine blk_alloc ?_ _));refine blk_put (cs:=#[.int .i64 ((rd_T61 l0 x3_1).f0),.int .i64 0,.int .i64 0]) ?_ 1 _ rfl;(with_reducible repeat (first|refine blk_drewN ?_ _|refine blk_drew ?_|refine blk_alloc ?_ _));refine blk_put (cs:=#[.int .i64 0,.int .i64 0,.int .i64 0]) ?_ 0 _ rfl;(with_reducible repeat (first|refine blk_drewN ?_ _|refine blk_drew ?_|refine blk_alloc ?_ _));exact BK236.out⟩
         have n1_:Aside0 (Below w.heap.size w (((w23.setCell ⟨gb236,0,none⟩ (.int .i64 ((rd_T61 l0 x3_1).f0))).setCell ⟨gb236,1,none⟩ (.int .i64 ((rd_T61 l0 x3_1).f1))).setCell ⟨gb236,2,none⟩ (.int .i64 ((rd_T61 l0 x3_1).f2)))):=⟨be⟩
         (try clear BK236);(try clear HB)
         generalize (((w23.setCell ⟨gb236,0,none⟩ (.int .i64 ((rd_T61 l0 x3_1).f0))).setCell ⟨gb236,1,none⟩ (.int .i64 ((rd_T61 l0 x3_1).f1))).setCell ⟨gb236,2,none⟩ (.int .i64 ((rd_T61 l0 x3_1).f2)))=w25 at n0_ n1_ ⊢
         have BK236:=n0_;have HB:=n1_;clear n0_ n1_;replace BK236:=aM (blk_drew BK236.out);replace HB:=aM (below_drew1 HB.out)
         refine start_ (n:=31) (S:=fun w'=>w'.cell? ⟨gb236,0,none⟩=some (.int .i64 ((rd_T61 l0 x3_1).f0))∧w'.cell? ⟨gb236,1,none⟩=some (.int .i64 ((rd_T61 l0 x3_1).f1))∧w'.cell? ⟨gb236,2,none⟩=some (.int .i64 ((rd_T61 l0 x3_1).f2))) (ds:=[]) (fl 31 0) (by kernel_rfl) rfl rfl ⟨(blk_cell BK236.out 0).trans rfl,(blk_cell BK236.out 1).trans rfl,(blk_cell BK236.out 2).trans rfl⟩ (fun hHeld=>?_);refine with_tabW spec_DevsOk.tab5 spec_DevsOk.bits5 (fun HT_ HW_=>?_)
         generalize w25.drew=w26 at BK236 HB hHeld ⊢
         refine pt 0 15 (fl 31 1) HT_ ?_
         refine tt 1 16 (fl 31 3) HT_ HW_ hHeld ?_
         refine ot 2 (some 17) (fl 31 7) HT_ (fun K hK=>?_)
         refine goes_ Try.func54 (by kernel_rfl) rfl #[.int .i64 ((rd_T61 l0 x3_1).f0),.int .i64 0,.int .i64 20] (by rfl) rfl rfl (by (try simp only [List.map_toArray,List.map_cons,List.map_nil]);first|done|rfl|(simp only [List.length_drop,List.length_take];rfl)) ?_
         with_reducible refine (spec_l1In.calls ((rd_T61 l0 x3_1).f0) 0 20 true _ A4.out).mono ?_
         rintro e w' ⟨rfl,⟨nd,rfl⟩⟩
         refine ⟨_,rfl,?_⟩
         refine hK.out _ _ ⟨(blk_cell BK236.out 0).trans rfl,(blk_cell BK236.out 1).trans rfl,(blk_cell BK236.out 2).trans rfl⟩ (fun hHeld=>?_)
         clear hK K
         refine no 17 ?_
         refine pt 3 18 (fl 31 15) HT_ ?_
         refine pt 4 19 (fl 31 31) HT_ ?_
         refine pt 5 20 (fl 31 63) HT_ ?_
         refine tt 6 21 (fl 31 127) HT_ HW_ hHeld ?_
         refine ot 7 (some 22) (fl 31 255) HT_ (fun K hK=>?_)
         refine goes_ Try.func54 (by kernel_rfl) rfl #[.int .i64 ((rd_T61 l0 x3_1).f1),.int .i64 0,.int .i64 20] (by rfl) rfl rfl (by (try simp only [List.map_toArray,List.map_cons,List.map_nil]);first|done|rfl|(simp only [List.length_drop,List.length_take];rfl)) ?_
         with_reducible refine (spec_l1In.calls ((rd_T61 l0 x3_1).f1) 0 20 true _ A6.out).mono ?_
         rintro e w' ⟨rfl,⟨nd,rfl⟩⟩
         refine ⟨_,rfl,?_⟩
         refine hK.out _ _ ⟨(blk_cell BK236.out 0).trans rfl,(blk_cell BK236.out 1).trans rfl,(blk_cell BK236.out 2).trans rfl⟩ (fun hHeld=>?_)
         clear hK K
         refine no 22 ?_
         refine pt 8 23 (fl 31 511) HT_ ?_
         refine pt 9 24 (fl 31 1023) HT_ ?_
         refine pt 10 25 (fl 31 2047) HT_ ?_
         refine pt 11 26 (fl 31 4095) HT_ ?_
         refine tt 12 27 (fl 31 8191) HT_ HW_ hHeld ?_
         refine ot 13 (some 28) (fl 31 16383) HT_ (fun K hK=>?_)
         refine goes_ Try.func54 (by kernel_rfl) rfl #[.int .i64 ((rd_T61 l0 x3_1).f2),.int .i64 1,.int .i64 1000] (by rfl) rfl rfl (by (try simp only [List.map_toArray,List.map_cons,List.map_nil]);first|done|rfl|(simp only [List.length_drop,List.length_take];rfl)) ?_
         with_reducible refine (spec_l1In.calls ((rd_T61 l0 x3_1).f2) 1 1000 true _ A8.out).mono ?_
         rintro e w' ⟨rfl,⟨nd,rfl⟩⟩
         refine ⟨_,rfl,?_⟩
         refine hK.out _ _ ⟨(blk_cell BK236.out 0).trans rfl,(blk_cell BK236.out 1).trans rfl,(blk_cell BK236.out 2).trans rfl⟩ (fun hHeld=>?_)
         clear hK K
         refine no 28 ?_
         refine pt 14 29 (fl 31 32767) HT_ ?_
         refine pt 15 30 (fl 31 65535) HT_ ?_
         refine pt 16 31 (fl 31 131071) HT_ ?_
         refine pt 17 32 (fl 31 262143) HT_ ?_
         refine pt 18 33 (fl 31 524287) HT_ ?_
         refine pt 19 34 (fl 31 1048575) HT_ ?_
         refine ut 20 35 (fl 31 2097151) HT_ ?_
         refine ut 21 36 (fl 31 4194303) HT_ ?_
         refine ut 22 37 (fl 31 8388607) HT_ ?_
         refine ut 23 38 (fl 31 16777215) HT_ ?_
         refine ut 24 39 (fl 31 33554431) HT_ ?_
         refine ut 25 40 (fl 31 67108863) HT_ ?_
         refine ut 26 41 (fl 31 134217727) HT_ ?_
         refine ut 27 42 (fl 31 268435455) HT_ ?_
         refine ut 28 43 (fl 31 536870911) HT_ ?_
         refine pt 29 44 (fl 31 1073741823) HT_ ?_
         refine pt 30 45 (fl 31 2147483647) HT_ ?_
         refine done_ (done_of HT_.out (by kernel_rfl)) ?_
         try go_wp2
         go_roundg k1
         case measure=>have:=HK1.out;omega
         case rel=>exact ⟨(wrap64 (x3_1+1)),rd_,H',⟨by have:=HK1.out;omega⟩,⟨be⟩⟩
       ·replace c9:=Bool.eq_false_iff.mpr c9
        subst c9
        replace H:=(if_neg (show ¬ (false=true) by decide)).symm.trans H
        obtain rfl:=Option.some.inj H
        have p235:0≤(x3_1:Int):=of_decide_eq_true (by first|(with_reducible assumption)|assumption)
        have q235:x3_1 < (l0.length:Int):=of_decide_eq_true (by first|(with_reducible assumption)|assumption)
        obtain ⟨ad235,e235,hx235_0,hx235_1,hx235_2⟩:=at_T61 HR0.out x3_1 p235 q235
        cases e235
        replace hx235_0:=(HB.out.cell (World.block_lt_of_cell? w _ hx235_0)).trans hx235_0
        replace hx235_1:=(HB.out.cell (World.block_lt_of_cell? w _ hx235_1)).trans hx235_1
        replace hx235_2:=(HB.out.cell (World.block_lt_of_cell? w _ hx235_2)).trans hx235_2
        replace p235:=eq_true p235
        replace q235:=eq_true q235
        try go_wp2_with ((with_reducible refine gate_dst (N:=4) rfl ?_);refine box_event ?hg (N:=4) ?hd (cs:=#[.int .i64 0,.int .i64 0,.int .i64 0]) (t:=61) ?hr ?_;(case hd=>rfl);(case hg=>rfl);(case hr=>first|(go_simp;done)|(go_simp;rfl));intro gb236 hg w27 hbox hb;have BK236:=aM (hbox);have GW236:=gS w hg;have GE236:=gS w hg;replace HB:=bs hb;clear hb hbox hg;have hcz28_0:w27.cell? ⟨gb236,0,none⟩=some (.int .i64 0):=(blk_cell BK236.out 0).trans rfl;have hcz28_1:w27.cell? ⟨gb236,1,none⟩=some (.int .i64 0):=(blk_cell BK236.out 1).trans rfl;have hcz28_2:w27.cell? ⟨gb236,2,none⟩=some (.int .i64 0):=(blk_cell BK236.out 2).trans rfl;have hfz28_0:=blk_frozen BK236.out 0;have hfz28_1:=blk_frozen BK236.out 1;have hfz28_2:=blk_frozen BK236.out 2)
        have n0_:Aside0 ((((w27.setCell ⟨gb236,0,none⟩ (.int .i64 ((rd_T61 l0 x3_1).f0))).setCell ⟨gb236,1,none⟩ (.int .i64 ((rd_T61 l0 x3_1).f1))).setCell ⟨gb236,2,none⟩ (.int .i64 ((rd_T61 l0 x3_1).f2))).heap[gb236]?=some (.cells #[.int .i64 ((rd_T61 l0 x3_1).f0),.int .i64 ((rd_T61 l0 x3_1).f1),.int .i64 ((rd_T61 l0 x3_1).f2)] 61 (0,0))):=⟨by (with_reducible repeat (first|refine blk_drewN ?_ _|refine blk_drew ?_|refine blk_alloc ?_ _));refine blk_put (cs:=#[.int .i64 ((rd_T61 l0 x3_1).f0),.int .i64 ((rd_T61 l0 x3_1).f1),.int .i64 0]) ?_ 2 _ rfl;(with_reducible repeat (first|refine blk_drewN ?_ _|refine blk_drew ?_|refine blk_alloc ?_ _));refine blk_put (cs:=#[.int .i64 ((rd_T61 l0 x3_1).f0),.int .i64 0,.int .i64 0]) ?_ 1 _ rfl;(with_reducible repeat (first|refine blk_drewN ?_ _|refine blk_drew ?_|refine blk_alloc ?_ _));refine blk_put (cs:=#[.int .i64 0,.int .i64 0,.int .i64 0]) ?_ 0 _ rfl;(with_reducible repeat (first|refine blk_drewN ?_ _|refine blk_drew ?_|refine blk_alloc ?_ _));exact BK236.out⟩
        have n1_:Aside0 (Below w.heap.size w (((w27.setCell ⟨gb236,0,none⟩ (.int .i64 ((rd_T61 l0 x3_1).f0))).setCell ⟨gb236,1,none⟩ (.int .i64 ((rd_T61 l0 x3_1).f1))).setCell ⟨gb236,2,none⟩ (.int .i64 ((rd_T61 l0 x3_1).f2)))):=⟨be⟩
        (try clear BK236);(try clear HB)
        generalize (((w27.setCell ⟨gb236,0,none⟩ (.int .i64 ((rd_T61 l0 x3_1).f0))).setCell ⟨gb236,1,none⟩ (.int .i64 ((rd_T61 l0 x3_1).f1))).setCell ⟨gb236,2,none⟩ (.int .i64 ((rd_T61 l0 x3_1).f2)))=w29 at n0_ n1_ ⊢
        have BK236:=n0_;have HB:=n1_;clear n0_ n1_;replace BK236:=aM (blk_drew BK236.out);replace HB:=aM (below_drew1 HB.out)
        refine start_ (n:=31) (S:=fun w'=>w'.cell? ⟨gb236,0,none⟩=some (.int .i64 ((rd_T61 l0 x3_1).f0))∧w'.cell? ⟨gb236,1,none⟩=some (.int .i64 ((rd_T61 l0 x3_1).f1))∧w'.cell? ⟨gb236,2,none⟩=some (.int .i64 ((rd_T61 l0 x3_1).f2))) (ds:=[]) (fl 31 0) (by kernel_rfl) rfl rfl ⟨(blk_cell BK236.out 0).trans rfl,(blk_cell BK236.out 1).trans rfl,(blk_cell BK236.out 2).trans rfl⟩ (fun hHeld=>?_);refine with_tabW spec_DevsOk.tab5 spec_DevsOk.bits5 (fun HT_ HW_=>?_)
        generalize w29.drew=w30 at BK236 HB hHeld ⊢
        refine pt 0 15 (fl 31 1) HT_ ?_
        refine tt 1 16 (fl 31 3) HT_ HW_ hHeld ?_
        refine ot 2 (some 17) (fl 31 7) HT_ (fun K hK=>?_)
        refine goes_ Try.func54 (by kernel_rfl) rfl #[.int .i64 ((rd_T61 l0 x3_1).f0),.int .i64 0,.int .i64 20] (by rfl) rfl rfl (by (try simp only [List.map_toArray,List.map_cons,List.map_nil]);first|done|rfl|(simp only [List.length_drop,List.length_take];rfl)) ?_
        with_reducible refine (spec_l1In.calls ((rd_T61 l0 x3_1).f0) 0 20 true _ A4.out).mono ?_
        rintro e w' ⟨rfl,⟨nd,rfl⟩⟩
        refine ⟨_,rfl,?_⟩
        refine hK.out _ _ ⟨(blk_cell BK236.out 0).trans rfl,(blk_cell BK236.out 1).trans rfl,(blk_cell BK236.out 2).trans rfl⟩ (fun hHeld=>?_)
        clear hK K
        refine no 17 ?_
        refine pt 3 18 (fl 31 15) HT_ ?_
        refine pt 4 19 (fl 31 31) HT_ ?_
        refine pt 5 20 (fl 31 63) HT_ ?_
        refine tt 6 21 (fl 31 127) HT_ HW_ hHeld ?_
        refine ot 7 (some 22) (fl 31 255) HT_ (fun K hK=>?_)
        refine goes_ Try.func54 (by kernel_rfl) rfl #[.int .i64 ((rd_T61 l0 x3_1).f1),.int .i64 0,.int .i64 20] (by rfl) rfl rfl (by (try simp only [List.map_toArray,List.map_cons,List.map_nil]);first|done|rfl|(simp only [List.length_drop,List.length_take];rfl)) ?_
        with_reducible refine (spec_l1In.calls ((rd_T61 l0 x3_1).f1) 0 20 true _ A6.out).mono ?_
        rintro e w' ⟨rfl,⟨nd,rfl⟩⟩
        refine ⟨_,rfl,?_⟩
        refine hK.out _ _ ⟨(blk_cell BK236.out 0).trans rfl,(blk_cell BK236.out 1).trans rfl,(blk_cell BK236.out 2).trans rfl⟩ (fun hHeld=>?_)
        clear hK K
        refine no 22 ?_
        refine pt 8 23 (fl 31 511) HT_ ?_
        refine pt 9 24 (fl 31 1023) HT_ ?_
        refine pt 10 25 (fl 31 2047) HT_ ?_
        refine pt 11 26 (fl 31 4095) HT_ ?_
        refine tt 12 27 (fl 31 8191) HT_ HW_ hHeld ?_
        refine ot 13 (some 28) (fl 31 16383) HT_ (fun K hK=>?_)
        refine goes_ Try.func54 (by kernel_rfl) rfl #[.int .i64 ((rd_T61 l0 x3_1).f2),.int .i64 1,.int .i64 1000] (by rfl) rfl rfl (by (try simp only [List.map_toArray,List.map_cons,List.map_nil]);first|done|rfl|(simp only [List.length_drop,List.length_take];rfl)) ?_
        with_reducible refine (spec_l1In.calls ((rd_T61 l0 x3_1).f2) 1 1000 false _ A8.out).mono ?_
        rintro e w' ⟨rfl,⟨nd,rfl⟩⟩
        refine ⟨_,rfl,?_⟩
        refine hK.out _ _ ⟨(blk_cell BK236.out 0).trans rfl,(blk_cell BK236.out 1).trans rfl,(blk_cell BK236.out 2).trans rfl⟩ (fun hHeld=>?_)
        clear hK K
        refine no 28 ?_
        refine pt 14 29 (fl 31 32767) HT_ ?_
        refine pt 15 30 (fl 31 65535) HT_ ?_
        refine pt 16 31 (fl 31 131071) HT_ ?_
        refine ut 17 32 (fl 31 262143) HT_ ?_
        refine ut 18 33 (fl 31 524287) HT_ ?_
        refine ut 19 34 (fl 31 1048575) HT_ ?_
        refine ut 20 35 (fl 31 2097151) HT_ ?_
        refine ut 21 36 (fl 31 4194303) HT_ ?_
        refine ut 22 37 (fl 31 8388607) HT_ ?_
        refine ut 23 38 (fl 31 16777215) HT_ ?_
        refine ut 24 39 (fl 31 33554431) HT_ ?_
        refine ut 25 40 (fl 31 67108863) HT_ ?_
        refine ut 26 41 (fl 31 134217727) HT_ ?_
        refine ut 27 42 (fl 31 268435455) HT_ ?_
        refine ut 28 43 (fl 31 536870911) HT_ ?_
        refine ut 29 44 (fl 31 1073741823) HT_ ?_
        refine pt 30 45 (fl 31 2147483647) HT_ ?_
        refine done_ (done_of HT_.out (by kernel_rfl)) ?_
        try go_wp2
        go_ret
        exact ⟨by first|rfl|(simp [errW_none,errW_some] <;> rfl)|(simp [*,errW_none,errW_some] <;> rfl),be⟩
      ·replace c7:=Bool.eq_false_iff.mpr c7
       subst c7
       replace H:=(if_neg (show ¬ (false=true) by decide)).symm.trans H
       obtain rfl:=Option.some.inj H
       have p235:0≤(x3_1:Int):=of_decide_eq_true (by first|(with_reducible assumption)|assumption)
       have q235:x3_1 < (l0.length:Int):=of_decide_eq_true (by first|(with_reducible assumption)|assumption)
       obtain ⟨ad235,e235,hx235_0,hx235_1,hx235_2⟩:=at_T61 HR0.out x3_1 p235 q235
       cases e235
       replace hx235_0:=(HB.out.cell (World.block_lt_of_cell? w _ hx235_0)).trans hx235_0
       replace hx235_1:=(HB.out.cell (World.block_lt_of_cell? w _ hx235_1)).trans hx235_1
       replace hx235_2:=(HB.out.cell (World.block_lt_of_cell? w _ hx235_2)).trans hx235_2
       replace p235:=eq_true p235
       replace q235:=eq_true q235
       try go_wp2_with ((with_reducible refine gate_dst (N:=4) rfl ?_);refine box_event ?hg (N:=4) ?hd (cs:=#[.int .i64 0,.int .i64 0,.int .i64 0]) (t:=61) ?hr ?_;(case hd=>rfl);(case hg=>rfl);(case hr=>first|(go_simp;done)|(go_simp;rfl));intro gb236 hg w31 hbox hb;have BK236:=aM (hbox);have GW236:=gS w hg;have GE236:=gS w hg;replace HB:=bs hb;clear hb hbox hg;have hcz32_0:w31.cell? ⟨gb236,0,none⟩=some (.int .i64 0):=(blk_cell BK236.out 0).trans rfl;have hcz32_1:w31.cell? ⟨gb236,1,none⟩=some (.int .i64 0):=(blk_cell BK236.out 1).trans rfl;have hcz32_2:w31.cell? ⟨gb236,2,none⟩=some (.int .i64 0):=(blk_cell BK236.out 2).trans rfl;have hfz32_0:=blk_frozen BK236.out 0;have hfz32_1:=blk_frozen BK236.out 1;have hfz32_2:=blk_frozen BK236.out 2)
       have n0_:Aside0 ((((w31.setCell ⟨gb236,0,none⟩ (.int .i64 ((rd_T61 l0 x3_1).f0))).setCell ⟨gb236,1,none⟩ (.int .i64 ((rd_T61 l0 x3_1).f1))).setCell ⟨gb236,2,none⟩ (.int .i64 ((rd_T61 l0 x3_1).f2))).heap[gb236]?=some (.cells #[.int .i64 ((rd_T61 l0 x3_1).f0),.int .i64 ((rd_T61 l0 x3_1).f1),.int .i64 ((rd_T61 l0 x3_1).f2)] 61 (0,0))):=⟨by (with_reducible repeat (first|refine blk_drewN ?_ _|refine blk_drew ?_|refine blk_alloc ?_ _));refine blk_put (cs:=#[.int .i64 ((rd_T61 l0 x3_1).f0),.int .i64 ((rd_T61 l0 x3_1).f1),.int .i64 0]) ?_ 2 _ rfl;(with_reducible repeat (first|refine blk_drewN ?_ _|refine blk_drew ?_|refine blk_alloc ?_ _));refine blk_put (cs:=#[.int .i64 ((rd_T61 l0 x3_1).f0),.int .i64 0,.int .i64 0]) ?_ 1 _ rfl;(with_reducible repeat (first|refine blk_drewN ?_ _|refine blk_drew ?_|refine blk_alloc ?_ _));refine blk_put (cs:=#[.int .i64 0,.int .i64 0,.int .i64 0]) ?_ 0 _ rfl;(with_reducible repeat (first|refine blk_drewN ?_ _|refine blk_drew ?_|refine blk_alloc ?_ _));exact BK236.out⟩
       have n1_:Aside0 (Below w.heap.size w (((w31.setCell ⟨gb236,0,none⟩ (.int .i64 ((rd_T61 l0 x3_1).f0))).setCell ⟨gb236,1,none⟩ (.int .i64 ((rd_T61 l0 x3_1).f1))).setCell ⟨gb236,2,none⟩ (.int .i64 ((rd_T61 l0 x3_1).f2)))):=⟨be⟩
       (try clear BK236);(try clear HB)
       generalize (((w31.setCell ⟨gb236,0,none⟩ (.int .i64 ((rd_T61 l0 x3_1).f0))).setCell ⟨gb236,1,none⟩ (.int .i64 ((rd_T61 l0 x3_1).f1))).setCell ⟨gb236,2,none⟩ (.int .i64 ((rd_T61 l0 x3_1).f2)))=w33 at n0_ n1_ ⊢
       have BK236:=n0_;have HB:=n1_;clear n0_ n1_;replace BK236:=aM (blk_drew BK236.out);replace HB:=aM (below_drew1 HB.out)
       refine start_ (n:=31) (S:=fun w'=>w'.cell? ⟨gb236,0,none⟩=some (.int .i64 ((rd_T61 l0 x3_1).f0))∧w'.cell? ⟨gb236,1,none⟩=some (.int .i64 ((rd_T61 l0 x3_1).f1))∧w'.cell? ⟨gb236,2,none⟩=some (.int .i64 ((rd_T61 l0 x3_1).f2))) (ds:=[]) (fl 31 0) (by kernel_rfl) rfl rfl ⟨(blk_cell BK236.out 0).trans rfl,(blk_cell BK236.out 1).trans rfl,(blk_cell BK236.out 2).trans rfl⟩ (fun hHeld=>?_);refine with_tabW spec_DevsOk.tab5 spec_DevsOk.bits5 (fun HT_ HW_=>?_)
       generalize w33.drew=w34 at BK236 HB hHeld ⊢
       refine pt 0 15 (fl 31 1) HT_ ?_
       refine tt 1 16 (fl 31 3) HT_ HW_ hHeld ?_
       refine ot 2 (some 17) (fl 31 7) HT_ (fun K hK=>?_)
       refine goes_ Try.func54 (by kernel_rfl) rfl #[.int .i64 ((rd_T61 l0 x3_1).f0),.int .i64 0,.int .i64 20] (by rfl) rfl rfl (by (try simp only [List.map_toArray,List.map_cons,List.map_nil]);first|done|rfl|(simp only [List.length_drop,List.length_take];rfl)) ?_
       with_reducible refine (spec_l1In.calls ((rd_T61 l0 x3_1).f0) 0 20 true _ A4.out).mono ?_
       rintro e w' ⟨rfl,⟨nd,rfl⟩⟩
       refine ⟨_,rfl,?_⟩
       refine hK.out _ _ ⟨(blk_cell BK236.out 0).trans rfl,(blk_cell BK236.out 1).trans rfl,(blk_cell BK236.out 2).trans rfl⟩ (fun hHeld=>?_)
       clear hK K
       refine no 17 ?_
       refine pt 3 18 (fl 31 15) HT_ ?_
       refine pt 4 19 (fl 31 31) HT_ ?_
       refine pt 5 20 (fl 31 63) HT_ ?_
       refine tt 6 21 (fl 31 127) HT_ HW_ hHeld ?_
       refine ot 7 (some 22) (fl 31 255) HT_ (fun K hK=>?_)
       refine goes_ Try.func54 (by kernel_rfl) rfl #[.int .i64 ((rd_T61 l0 x3_1).f1),.int .i64 0,.int .i64 20] (by rfl) rfl rfl (by (try simp only [List.map_toArray,List.map_cons,List.map_nil]);first|done|rfl|(simp only [List.length_drop,List.length_take];rfl)) ?_
       with_reducible refine (spec_l1In.calls ((rd_T61 l0 x3_1).f1) 0 20 false _ A6.out).mono ?_
       rintro e w' ⟨rfl,⟨nd,rfl⟩⟩
       refine ⟨_,rfl,?_⟩
       refine hK.out _ _ ⟨(blk_cell BK236.out 0).trans rfl,(blk_cell BK236.out 1).trans rfl,(blk_cell BK236.out 2).trans rfl⟩ (fun hHeld=>?_)
       clear hK K
       refine no 22 ?_
       refine pt 8 23 (fl 31 511) HT_ ?_
       refine pt 9 24 (fl 31 1023) HT_ ?_
       refine pt 10 25 (fl 31 2047) HT_ ?_
       refine ut 11 26 (fl 31 4095) HT_ ?_
       refine ut 12 27 (fl 31 8191) HT_ ?_
       refine ut 13 28 (fl 31 16383) HT_ ?_
       refine ut 14 29 (fl 31 32767) HT_ ?_
       refine pt 15 30 (fl 31 65535) HT_ ?_
       refine pt 16 31 (fl 31 131071) HT_ ?_
       refine ut 17 32 (fl 31 262143) HT_ ?_
       refine ut 18 33 (fl 31 524287) HT_ ?_
       refine ut 19 34 (fl 31 1048575) HT_ ?_
       refine ut 20 35 (fl 31 2097151) HT_ ?_
       refine ut 21 36 (fl 31 4194303) HT_ ?_
       refine ut 22 37 (fl 31 8388607) HT_ ?_
       refine ut 23 38 (fl 31 16777215) HT_ ?_
       refine ut 24 39 (fl 31 33554431) HT_ ?_
       refine ut 25 40 (fl 31 67108863) HT_ ?_
       refine ut 26 41 (fl 31 134217727) HT_ ?_
       refine ut 27 42 (fl 31 268435455) HT_ ?_
       refine ut 28 43 (fl 31 536870911) HT_ ?_
       refine ut 29 44 (fl 31 1073741823) HT_ ?_
       refine pt 30 45 (fl 31 2147483647) HT_ ?_
       refine done_ (done_of HT_.out (by kernel_rfl)) ?_
       try go_wp2
       go_ret
       exact ⟨by first|rfl|(simp [errW_none,errW_some] <;> rfl)|(simp [*,errW_none,errW_some] <;> rfl),be⟩
     ·replace c5:=Bool.eq_false_iff.mpr c5
      subst c5
      replace H:=(if_neg (show ¬ (false=true) by decide)).symm.trans H
      obtain rfl:=Option.some.inj H
      have p235:0≤(x3_1:Int):=of_decide_eq_true (by first|(with_reducible assumption)|assumption)
      have q235:x3_1 < (l0.length:Int):=of_decide_eq_true (by first|(with_reducible assumption)|assumption)
      obtain ⟨ad235,e235,hx235_0,hx235_1,hx235_2⟩:=at_T61 HR0.out x3_1 p235 q235
      cases e235
      replace hx235_0:=(HB.out.cell (World.block_lt_of_cell? w _ hx235_0)).trans hx235_0
      replace hx235_1:=(HB.out.cell (World.block_lt_of_cell? w _ hx235_1)).trans hx235_1
      replace hx235_2:=(HB.out.cell (World.block_lt_of_cell? w _ hx235_2)).trans hx235_2
      replace p235:=eq_true p235
      replace q235:=eq_true q235
      try go_wp2_with ((with_reducible refine gate_dst (N:=4) rfl ?_);refine box_event ?hg (N:=4) ?hd (cs:=#[.int .i64 0,.int .i64 0,.int .i64 0]) (t:=61) ?hr ?_;(case hd=>rfl);(case hg=>rfl);(case hr=>first|(go_simp;done)|(go_simp;rfl));intro gb236 hg w35 hbox hb;have BK236:=aM (hbox);have GW236:=gS w hg;have GE236:=gS w hg;replace HB:=bs hb;clear hb hbox hg;have hcz36_0:w35.cell? ⟨gb236,0,none⟩=some (.int .i64 0):=(blk_cell BK236.out 0).trans rfl;have hcz36_1:w35.cell? ⟨gb236,1,none⟩=some (.int .i64 0):=(blk_cell BK236.out 1).trans rfl;have hcz36_2:w35.cell? ⟨gb236,2,none⟩=some (.int .i64 0):=(blk_cell BK236.out 2).trans rfl;have hfz36_0:=blk_frozen BK236.out 0;have hfz36_1:=blk_frozen BK236.out 1;have hfz36_2:=blk_frozen BK236.out 2)
      have n0_:Aside0 ((((w35.setCell ⟨gb236,0,none⟩ (.int .i64 ((rd_T61 l0 x3_1).f0))).setCell ⟨gb236,1,none⟩ (.int .i64 ((rd_T61 l0 x3_1).f1))).setCell ⟨gb236,2,none⟩ (.int .i64 ((rd_T61 l0 x3_1).f2))).heap[gb236]?=some (.cells #[.int .i64 ((rd_T61 l0 x3_1).f0),.int .i64 ((rd_T61 l0 x3_1).f1),.int .i64 ((rd_T61 l0 x3_1).f2)] 61 (0,0))):=⟨by (with_reducible repeat (first|refine blk_drewN ?_ _|refine blk_drew ?_|refine blk_alloc ?_ _));refine blk_put (cs:=#[.int .i64 ((rd_T61 l0 x3_1).f0),.int .i64 ((rd_T61 l0 x3_1).f1),.int .i64 0]) ?_ 2 _ rfl;(with_reducible repeat (first|refine blk_drewN ?_ _|refine blk_drew ?_|refine blk_alloc ?_ _));refine blk_put (cs:=#[.int .i64 ((rd_T61 l0 x3_1).f0),.int .i64 0,.int .i64 0]) ?_ 1 _ rfl;(with_reducible repeat (first|refine blk_drewN ?_ _|refine blk_drew ?_|refine blk_alloc ?_ _));refine blk_put (cs:=#[.int .i64 0,.int .i64 0,.int .i64 0]) ?_ 0 _ rfl;(with_reducible repeat (first|refine blk_drewN ?_ _|refine blk_drew ?_|refine blk_alloc ?_ _));exact BK236.out⟩
      have n1_:Aside0 (Below w.heap.size w (((w35.setCell ⟨gb236,0,none⟩ (.int .i64 ((rd_T61 l0 x3_1).f0))).setCell ⟨gb236,1,none⟩ (.int .i64 ((rd_T61 l0 x3_1).f1))).setCell ⟨gb236,2,none⟩ (.int .i64 ((rd_T61 l0 x3_1).f2)))):=⟨be⟩
      (try clear BK236);(try clear HB)
      generalize (((w35.setCell ⟨gb236,0,none⟩ (.int .i64 ((rd_T61 l0 x3_1).f0))).setCell ⟨gb236,1,none⟩ (.int .i64 ((rd_T61 l0 x3_1).f1))).setCell ⟨gb236,2,none⟩ (.int .i64 ((rd_T61 l0 x3_1).f2)))=w37 at n0_ n1_ ⊢
      have BK236:=n0_;have HB:=n1_;clear n0_ n1_;replace BK236:=aM (blk_drew BK236.out);replace HB:=aM (below_drew1 HB.out)
      refine start_ (n:=31) (S:=fun w'=>w'.cell? ⟨gb236,0,none⟩=some (.int .i64 ((rd_T61 l0 x3_1).f0))∧w'.cell? ⟨gb236,1,none⟩=some (.int .i64 ((rd_T61 l0 x3_1).f1))∧w'.cell? ⟨gb236,2,none⟩=some (.int .i64 ((rd_T61 l0 x3_1).f2))) (ds:=[]) (fl 31 0) (by kernel_rfl) rfl rfl ⟨(blk_cell BK236.out 0).trans rfl,(blk_cell BK236.out 1).trans rfl,(blk_cell BK236.out 2).trans rfl⟩ (fun hHeld=>?_);refine with_tabW spec_DevsOk.tab5 spec_DevsOk.bits5 (fun HT_ HW_=>?_)
      generalize w37.drew=w38 at BK236 HB hHeld ⊢
      refine pt 0 15 (fl 31 1) HT_ ?_
      refine tt 1 16 (fl 31 3) HT_ HW_ hHeld ?_
      refine ot 2 (some 17) (fl 31 7) HT_ (fun K hK=>?_)
      refine goes_ Try.func54 (by kernel_rfl) rfl #[.int .i64 ((rd_T61 l0 x3_1).f0),.int .i64 0,.int .i64 20] (by rfl) rfl rfl (by (try simp only [List.map_toArray,List.map_cons,List.map_nil]);first|done|rfl|(simp only [List.length_drop,List.length_take];rfl)) ?_
      with_reducible refine (spec_l1In.calls ((rd_T61 l0 x3_1).f0) 0 20 false _ A4.out).mono ?_
      rintro e w' ⟨rfl,⟨nd,rfl⟩⟩
      refine ⟨_,rfl,?_⟩
      refine hK.out _ _ ⟨(blk_cell BK236.out 0).trans rfl,(blk_cell BK236.out 1).trans rfl,(blk_cell BK236.out 2).trans rfl⟩ (fun hHeld=>?_)
      clear hK K
      refine no 17 ?_
      refine pt 3 18 (fl 31 15) HT_ ?_
      refine pt 4 19 (fl 31 31) HT_ ?_
      refine ut 5 20 (fl 31 63) HT_ ?_
      refine ut 6 21 (fl 31 127) HT_ ?_
      refine ut 7 22 (fl 31 255) HT_ ?_
      refine ut 8 23 (fl 31 511) HT_ ?_
      refine pt 9 24 (fl 31 1023) HT_ ?_
      refine pt 10 25 (fl 31 2047) HT_ ?_
      refine ut 11 26 (fl 31 4095) HT_ ?_
      refine ut 12 27 (fl 31 8191) HT_ ?_
      refine ut 13 28 (fl 31 16383) HT_ ?_
      refine ut 14 29 (fl 31 32767) HT_ ?_
      refine pt 15 30 (fl 31 65535) HT_ ?_
      refine pt 16 31 (fl 31 131071) HT_ ?_
      refine ut 17 32 (fl 31 262143) HT_ ?_
      refine ut 18 33 (fl 31 524287) HT_ ?_
      refine ut 19 34 (fl 31 1048575) HT_ ?_
      refine ut 20 35 (fl 31 2097151) HT_ ?_
      refine ut 21 36 (fl 31 4194303) HT_ ?_
      refine ut 22 37 (fl 31 8388607) HT_ ?_
      refine ut 23 38 (fl 31 16777215) HT_ ?_
      refine ut 24 39 (fl 31 33554431) HT_ ?_
      refine ut 25 40 (fl 31 67108863) HT_ ?_
      refine ut 26 41 (fl 31 134217727) HT_ ?_
      refine ut 27 42 (fl 31 268435455) HT_ ?_
      refine ut 28 43 (fl 31 536870911) HT_ ?_
      refine ut 29 44 (fl 31 1073741823) HT_ ?_
      refine pt 30 45 (fl 31 2147483647) HT_ ?_
      refine done_ (done_of HT_.out (by kernel_rfl)) ?_
      try go_wp2
      go_ret
      exact ⟨by first|rfl|(simp [errW_none,errW_some] <;> rfl)|(simp [*,errW_none,errW_some] <;> rfl),be⟩
    ·rw [if_neg c3] at H
     exact absurd H (by simp)
   ·rw [if_neg c2] at H
    have c2b0:decide (x3_1 < (l0.length:Int))=false:=decide_eq_false c2
    clear c2
    replace H:=Option.bind_eq_some_iff.mp H
    obtain ⟨t234,A390,H⟩:=H
    try dsimp only at H
    have A39:=aM A390
    clear A390
    obtain rfl:=Option.some.inj H
    go_wp2_with ((with_reducible refine gate_callee (f:=54) rfl ?_);refine goesL_ (some 48) rfl rfl Try.func54 (by kernel_rfl) rfl #[.int .i64 (l0.length:Int),.int .i64 1,.int .i64 12] rfl (by (try simp only [List.map_toArray,List.map_cons,List.map_nil]);first|done|rfl|(simp only [List.length_drop,List.length_take];rfl)) ?_;(with_reducible refine (spec_l1In.calls (l0.length:Int) 1 12 t234 _ A39.out).mono ?_);rintro e w' ⟨rfl,⟨nd,rfl⟩⟩;refine ⟨_,rfl,?_⟩)
    go_ret
    exact ⟨by first|rfl|(simp [errW_none,errW_some] <;> rfl)|(simp [*,errW_none,errW_some] <;> rfl),be⟩
def spec_l4Has.l0:Nat→List Int→Int→Int→Option (Bool)
 | 0,_,_,_=>none
 | k+1,x0,x1,x5=>if x5 < (x0.length:Int) then (if 0≤x5 then (if (rd x0 x5)=x1 then (some true) else (spec_l4Has.l0 k x0 x1 (wrap64 (x5+1)))) else (none)) else (some false)
def spec_l4Has.f (k:Nat) (l0:List Int) (a1:Int):Option (Bool):=spec_l4Has.l0 k l0 a1 0
set_option maxHeartbeats 8000000 in
set_option maxRecDepth 100000 in
theorem spec_l4Has.calls (k:Nat) (A0:Option Addr) (c0:Nat) (l0:List Int) (a1:Int) (r:Bool) (w:World) (hr0:Kd.C (Kd.int .i64) w A0 l0.length l0) (hc0:l0.length≤c0) (h:spec_l4Has.f k l0 a1=some r) :
  Calls Try.prog 68 #[.slice A0 l0.length c0,.int .i64 a1] w fun e w'=>e = .returned (.bool r)∧Drawn0 w w':=by
 have HR0:=aM hr0
 have HC0:=aM hc0
 clear hr0 hc0
 have H:(spec_l4Has.l0 k l0 a1 0)=some r:=h
 clear h
 have H':=Aside0.mk H
 clear H
 go_enter Try.func68,Try.ntmps68
 go_wp2
 go_loopg [5] k (fun kq v5 w'=>∃ (x5_1:Int),v5 = .int .i64 x5_1∧Aside0 (spec_l4Has.l0 kq l0 a1 x5_1=some r)∧Aside0 (kq≤k)∧Drawn0 w w')
 case atStart=>exact ⟨(0),rd_,H',⟨Nat.le_refl _⟩,by repeat (exact Drawn0.refl _)⟩
 case round=>
  clear H'
  obtain ⟨x5_1,rfl,HA,HK1,⟨m1,rfl⟩⟩:=hrel
  cases gk with
  | zero=>exact absurd HA.out (by simp [spec_l4Has.l0])
  | succ k1=>
   have H:=HA.out
   clear HA
   simp only [spec_l4Has.l0] at H
   by_cases c3:x5_1 < (l0.length:Int)
   ·rw [if_pos c3] at H
    have c3b0:decide (x5_1 < (l0.length:Int))=true:=decide_eq_true c3
    clear c3
    by_cases c4:0≤x5_1
    ·rw [if_pos c4] at H
     have c4b0:decide (0≤x5_1)=true:=decide_eq_true c4
     clear c4
     by_cases c5:(rd l0 x5_1)=a1
     ·rw [if_pos c5] at H
      have c5b0:((rd l0 x5_1) == a1)=true:=beq_iff_eq.mpr c5
      have c5b1:((rd l0 x5_1) != a1)=false:=bne_eq_false_iff_eq.mpr c5
      clear c5
      obtain rfl:=Option.some.inj H
      have p241:0≤(x5_1:Int):=of_decide_eq_true (by first|(with_reducible assumption)|assumption)
      have q241:x5_1 < (l0.length:Int):=of_decide_eq_true (by first|(with_reducible assumption)|assumption)
      obtain ⟨ad241,e241,hx241_0⟩:=Kd.at_int HR0.out x5_1 p241 q241
      cases e241
      replace p241:=eq_true p241
      replace q241:=eq_true q241
      go_wp2
      go_ret
      exact ⟨by first|rfl|(simp;done)|(simp [*];done),by repeat (first|exact Drawn0.refl _|apply Drawn0.step)⟩
     ·rw [if_neg c5] at H
      have c5b0:((rd l0 x5_1) == a1)=false:=beq_eq_false_iff_ne.mpr c5
      have c5b1:((rd l0 x5_1) != a1)=true:=bne_iff_ne.mpr c5
      have H':=Aside0.mk H
      clear H
      have p241:0≤(x5_1:Int):=of_decide_eq_true (by first|(with_reducible assumption)|assumption)
      have q241:x5_1 < (l0.length:Int):=of_decide_eq_true (by first|(with_reducible assumption)|assumption)
      obtain ⟨ad241,e241,hx241_0⟩:=Kd.at_int HR0.out x5_1 p241 q241
      cases e241
      replace p241:=eq_true p241
      replace q241:=eq_true q241
      go_wp2
      go_roundg k1
      case measure=>have:=HK1.out;omega
      case rel=>exact ⟨(wrap64 (x5_1+1)),rd_,H',⟨by have:=HK1.out;omega⟩,by repeat (first|exact Drawn0.refl _|apply Drawn0.step)⟩
    ·rw [if_neg c4] at H
     exact absurd H (by simp)
   ·rw [if_neg c3] at H
    have c3b0:decide (x5_1 < (l0.length:Int))=false:=decide_eq_false c3
    clear c3
    obtain rfl:=Option.some.inj H
    go_wp2
    go_ret
    exact ⟨by first|rfl|(simp;done)|(simp [*];done),by repeat (first|exact Drawn0.refl _|apply Drawn0.step)⟩
def spec_l5Part.l0:Nat→Int→Int→List Int→Option (Bool)
 | 0,_,_,_=>none
 | k+1,x1,x5,x243000=>if x5 < (x243000.length:Int) then (if 0≤x5 then (if x5≤(x243000.length:Int) then ((spec_l4Has.f k (x243000.take (x5:Int).toNat) (rd x243000 x5)).bind fun t245=>(if t245=true then (some false) else (spec_l5Part.l0 k x1 (wrap64 (x5+1)) x243000))) else (none)) else (none)) else (some ((x243000.length:Int) == x1))
def spec_l5Part.f (k:Nat) (l0_0:List Int) (a1:Int):Option (Bool):=spec_l5Part.l0 k a1 0 l0_0
set_option maxHeartbeats 8000000 in
set_option maxRecDepth 100000 in
theorem spec_l5Part.calls (k:Nat) (A0_0:Option Addr) (c0_0:Nat) (l0_0:List Int) (a1:Int) (r:Bool) (w:World) (hr0_0:Kd.C (Kd.int .i64) w A0_0 l0_0.length l0_0) (hc0_0:l0_0.length≤c0_0) (h:spec_l5Part.f k l0_0 a1=some r) :
  Calls Try.prog 55 #[.agg #[.slice A0_0 l0_0.length c0_0],.int .i64 a1] w fun e w'=>e = .returned (.bool r)∧Below w.heap.size w w':=by
 have hu35:=Try.underlying35
 have HR0_0:=aM hr0_0
 have HC0_0:=aM hc0_0
 clear hr0_0 hc0_0
 have HB:=aM (Below.refl w.heap.size w)
 have H:(spec_l5Part.l0 k a1 0 l0_0)=some r:=h
 clear h
 have H':=Aside0.mk H
 clear H
 go_enter Try.func55,Try.ntmps55
 go_wp2_with ((with_reducible refine gate_dst (N:=2) rfl ?_);refine box_event ?hg (N:=2) ?hd (cs:=#[.slice A0_0 l0_0.length c0_0]) (t:=35) ?hr ?_;(case hd=>rfl);(case hg=>rfl);(case hr=>first|(go_simp;done)|(go_simp;rfl));intro gb242 hg w3 hbox hb;have BK242:=aM (hbox);have GW242:=gS w hg;have GE242:=gS w hg;replace HB:=bs hb;clear hb hbox hg)
 repeat (go_quiet (first|((with_reducible refine gate_dst (N:=2) rfl ?_);refine box_event ?hg (N:=2) ?hd (cs:=#[.slice A0_0 l0_0.length c0_0]) (t:=35) ?hr ?_;(case hd=>rfl);(case hg=>rfl);(case hr=>first|(go_simp;done)|(go_simp;rfl));intro gb242 hg w3 hbox hb;have BK242:=aM (hbox);have GW242:=gS w hg;have GE242:=gS w hg;replace HB:=bs hb;clear hb hbox hg)))
 go_loopg [5] k (fun kq v5 w'=>∃ (x5_1:Int),v5 = .int .i64 x5_1∧Aside0 (spec_l5Part.l0 kq a1 x5_1 l0_0=some r)∧Aside0 (kq≤k)∧Aside0 (w'.heap[gb242]?=some (.cells #[(.slice A0_0 l0_0.length c0_0)] 35 (0,0)))∧Aside0 (Below w.heap.size w w'))
 case atStart=>exact ⟨(0),rd_,H',⟨Nat.le_refl _⟩,⟨bk BK242⟩,⟨be⟩⟩
 case round=>
  clear H'
  obtain ⟨x5_1,rfl,HA,HK1,BK242,HB⟩:=hrel
  cases gk with
  | zero=>exact absurd HA.out (by simp [spec_l5Part.l0])
  | succ k1=>
   have H:=HA.out
   clear HA
   simp only [spec_l5Part.l0] at H
   by_cases c4:x5_1 < (l0_0.length:Int)
   ·rw [if_pos c4] at H
    have c4b0:decide (x5_1 < (l0_0.length:Int))=true:=decide_eq_true c4
    clear c4
    by_cases c5:0≤x5_1
    ·rw [if_pos c5] at H
     have c5b0:=eq_true c5
     have c5b1:decide (0≤x5_1)=true:=decide_eq_true c5
     clear c5
     by_cases c6:x5_1≤(l0_0.length:Int)
     ·rw [if_pos c6] at H
      have c6b0:=eq_true c6
      have c6b1:decide (x5_1≤(l0_0.length:Int))=true:=decide_eq_true c6
      clear c6
      replace H:=Option.bind_eq_some_iff.mp H
      obtain ⟨t245,A70,H⟩:=H
      try dsimp only at H
      have A7:=aM A70
      clear A70
      by_cases c8:t245=true
      ·subst c8
       rw [if_pos rfl] at H
       obtain rfl:=Option.some.inj H
       have hcz9_0:wr.cell? ⟨gb242,0,none⟩=some (.slice A0_0 l0_0.length c0_0):=(blk_cell BK242.out 0).trans rfl
       have hfz9_0:=blk_frozen BK242.out 0
       obtain ⟨i010,hi010,_,hsz10,_⟩:=info_parts info3
       obtain ⟨hcut10,hA10,hC10⟩:=print_take_of (P:=Try.prog) (Value.int .i64) 0 33 3 .i64 Try.underlying33 hi010 hsz10 A0_0 c0_0 l0_0 x5_1 (of_decide_eq_true (by first|(with_reducible assumption)|assumption)) (of_decide_eq_true (by first|(with_reducible assumption)|assumption)) HC0_0.out
       have HR243:=aM (Kd.C_of_reads (h1:=fun _=>rfl) (hA10 _ (Kd.reads_of_C HR0_0.out)))
       have HC243:=aM hC10
       clear hA10 hC10 hi010 hsz10
       have p244:0≤(x5_1:Int):=of_decide_eq_true (by first|(with_reducible assumption)|assumption)
       have q244:x5_1 < (l0_0.length:Int):=of_decide_eq_true (by first|(with_reducible assumption)|assumption)
       obtain ⟨ad244,e244,hx244_0⟩:=Kd.at_int HR0_0.out x5_1 p244 q244
       cases e244
       replace hx244_0:=(HB.out.cell (World.block_lt_of_cell? w _ hx244_0)).trans hx244_0
       replace p244:=eq_true p244
       replace q244:=eq_true q244
       have HLx_:=aM (show (l0_0.take (x5_1:Int).toNat).length=(x5_1:Int).toNat from (by rw [List.length_take];have q_:x5_1≤(l0_0.length:Int):=of_decide_eq_true (by assumption);omega))
       go_wp2_with fail
       repeat (go_quiet (first|((go_at_call 68;(with_reducible refine (Aid.calls_len HLx_.out (spec_l4Has.calls k1 _ _ (l0_0.take (x5_1:Int).toNat) (rd l0_0 x5_1) true _ ?side1 ?side2 A7.out)).mono ?_);(case side1=>exact rC HR243);(case side2=>exact HC243.out);rintro e w' ⟨rfl,⟨nd,rfl⟩⟩;(try first|exact ⟨rfl,_,World.drewN_drewN _ _ _⟩|exact ⟨rfl,_,Eq.trans (World.drewN_drewN _ _ _) (congrArg (World.drewN _) (Nat.add_assoc _ _ _))⟩))));try go_wp2_with fail)
       go_ret
       exact ⟨rz,be⟩
      ·replace c8:=Bool.eq_false_iff.mpr c8
       subst c8
       replace H:=(if_neg (show ¬ (false=true) by decide)).symm.trans H
       have H':=Aside0.mk H
       clear H
       have hcz11_0:wr.cell? ⟨gb242,0,none⟩=some (.slice A0_0 l0_0.length c0_0):=(blk_cell BK242.out 0).trans rfl
       have hfz11_0:=blk_frozen BK242.out 0
       obtain ⟨i012,hi012,_,hsz12,_⟩:=info_parts info3
       obtain ⟨hcut12,hA12,hC12⟩:=print_take_of (P:=Try.prog) (Value.int .i64) 0 33 3 .i64 Try.underlying33 hi012 hsz12 A0_0 c0_0 l0_0 x5_1 (of_decide_eq_true (by first|(with_reducible assumption)|assumption)) (of_decide_eq_true (by first|(with_reducible assumption)|assumption)) HC0_0.out
       have HR243:=aM (Kd.C_of_reads (h1:=fun _=>rfl) (hA12 _ (Kd.reads_of_C HR0_0.out)))
       have HC243:=aM hC12
       clear hA12 hC12 hi012 hsz12
       have p244:0≤(x5_1:Int):=of_decide_eq_true (by first|(with_reducible assumption)|assumption)
       have q244:x5_1 < (l0_0.length:Int):=of_decide_eq_true (by first|(with_reducible assumption)|assumption)
       obtain ⟨ad244,e244,hx244_0⟩:=Kd.at_int HR0_0.out x5_1 p244 q244
       cases e244
       replace hx244_0:=(HB.out.cell (World.block_lt_of_cell? w _ hx244_0)).trans hx244_0
       replace p244:=eq_true p244
       replace q244:=eq_true q244
       have HLx_:=aM (show (l0_0.take (x5_1:Int).toNat).length=(x5_1:Int).toNat from (by rw [List.length_take];have q_:x5_1≤(l0_0.length:Int):=of_decide_eq_true (by assumption);omega))
       go_wp2_with fail
       repeat (go_quiet (first|((go_at_call 68;(with_reducible refine (Aid.calls_len HLx_.out (spec_l4Has.calls k1 _ _ (l0_0.take (x5_1:Int).toNat) (rd l0_0 x5_1) false _ ?side1 ?side2 A7.out)).mono ?_);(case side1=>exact rC HR243);(case side2=>exact HC243.out);rintro e w' ⟨rfl,⟨nd,rfl⟩⟩;(try first|exact ⟨rfl,_,World.drewN_drewN _ _ _⟩|exact ⟨rfl,_,Eq.trans (World.drewN_drewN _ _ _) (congrArg (World.drewN _) (Nat.add_assoc _ _ _))⟩))));try go_wp2_with fail)
       go_roundg k1
       case measure=>have:=HK1.out;omega
       case rel=>exact ⟨(wrap64 (x5_1+1)),rd_,H',⟨by have:=HK1.out;omega⟩,⟨bk BK242⟩,⟨be⟩⟩
     ·rw [if_neg c6] at H
      exact absurd H (by simp)
    ·rw [if_neg c5] at H
     exact absurd H (by simp)
   ·rw [if_neg c4] at H
    have c4b0:decide (x5_1 < (l0_0.length:Int))=false:=decide_eq_false c4
    clear c4
    obtain rfl:=Option.some.inj H
    have hcz13_0:wr.cell? ⟨gb242,0,none⟩=some (.slice A0_0 l0_0.length c0_0):=(blk_cell BK242.out 0).trans rfl
    have hfz13_0:=blk_frozen BK242.out 0
    go_wp2
    repeat (go_quiet (fail);try go_wp2)
    go_ret
    exact ⟨rz,be⟩
end Go.Proofs.Ytpbjbfimnfghkaa.PFnExactRebalance
