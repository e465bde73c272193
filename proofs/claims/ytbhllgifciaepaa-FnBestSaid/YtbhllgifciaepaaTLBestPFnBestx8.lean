/- Trimmed by a program of this session (trim.py). Not trusted: Lean checks it. -/
import Derived.Test.YtbhllgifciaepaaTLBestPFnBestx0
import Derived.Test.YtbhllgifciaepaaTLBestPFnBestx7
namespace Go.Proofs.Ytbhllgifciaepaa.PFnBest
open Go.RowKit Go.Proofs.YtbhllgifciaepaaW.PrintWords Go.Proofs.YtbhllgifciaepaaW.PrintLast Go.Proofs.YtbhllgifciaepaaW.PrintMore Go.Proofs.Ytbhllgifciaepaa.St
attribute [local go_sem] max2_int min2_int max_two min_two max_three min_three max_four min_four
set_option linter.unusedVariables false
set_option linter.unusedSimpArgs false
def impl_DevsOk.l0:Nat→List (S76)→List (S76)→Int→Int→Option (Bool)
 | 0,_,_,_,_=>none
 | k+1,x0,x5,x6,x7=>if x7 < x6 then (if 0≤x7 then (if x7 < (x5.length:Int) then ((impl_in.f ((rd_T76 x5 x7).f0) 0 20).bind fun t371=>(if t371=true then ((impl_in.f ((rd_T76 x5 x7).f1) 0 20).bind fun t372=>(if t372=true then ((impl_in.f ((rd_T76 x5 x7).f2) 1 1000).bind fun t373=>(if t373=true then (if x7 > 0 then (if 0≤(wrap64 (x7 - 1)) then (if (wrap64 (x7 - 1)) < (x0.length:Int) then (if ((rd_T76 x0 (wrap64 (x7 - 1))).f0) ≥ ((rd_T76 x5 x7).f0) then (some false) else (impl_DevsOk.l0 k x0 x5 x6 (wrap64 (x7+1)))) else (none)) else (none)) else (impl_DevsOk.l0 k x0 x5 x6 (wrap64 (x7+1)))) else (some false))) else (some false))) else (some false))) else (none)) else (none)) else ((impl_in.f (x0.length:Int) 1 12).bind fun t368=>(some t368))
def impl_DevsOk.f (k:Nat) (l0:List (S76)):Option (Bool):=impl_DevsOk.l0 k l0 l0 (l0.length:Int) 0
def impl_DevsOk.T4:Bool × List (List Nat × List Nat):=(true,[([],[]),([0],[0]),([1],[1]),([2],[2]),([3,2],[3]),([4],[4]),([5,4],[4,5]),([6,4,4],[4,6]),([7,4],[4,7]),([4,8],[4,8]),([9,7],[9]),([10],[10]),([11,10],[10,11]),([12,10,10],[10,12]),([13,10],[10,13]),([10,14],[10,14]),([15,13],[15]),([16],[16]),([17,16],[16,17]),([18,16,16],[16,18]),([19],[19]),([19],[19]),([21,19],[19,21]),([20,22,19],[19,20,22]),([23,19],[19,23]),([24,19],[19,24]),([19],[19]),([26,19],[19,26]),([25,27,19],[19,25,27]),([19,28,16],[16,19,28]),([16,29],[16,29])])
def impl_DevsOk.B4:List Nat:=[0,1,3,7,15,31,63,127,255,511,1023,2047,4095,8191,16383,32767,65535,131071,262143,524287,1048575,1048575,3145727,8388607,16777215,33554431,1048575,68157439,268435455,536870911,1073741823]
theorem impl_DevsOk.tab4:rtab .any (opsOf Try.f100 4)=impl_DevsOk.T4:=by kernel_rfl
theorem impl_DevsOk.bits4:waitsOk impl_DevsOk.T4.2 impl_DevsOk.B4=true:=by kernel_rfl
set_option maxHeartbeats 8000000 in
set_option maxRecDepth 100000 in
theorem impl_DevsOk.calls (k:Nat) (A0:Option Addr) (c0:Nat) (l0:List (S76)) (r:Bool) (w:World) (hr0:Kd.C k76 w A0 l0.length l0) (hc0:l0.length≤c0) (h:impl_DevsOk.f k l0=some r) :
  Calls Try.prog 100 #[.slice A0 l0.length c0] w fun e w'=>e = .returned (.bool r)∧Below w.heap.size w w':=by
 have hu76:=Try.underlying76
 have HR0:=Aside0.mk hr0
 have HC0:=Aside0.mk hc0
 clear hr0 hc0
 have HB:=Aside0.mk (Below.refl w.heap.size w)
 have H:(impl_DevsOk.l0 k l0 l0 (l0.length:Int) 0)=some r:=h
 clear h
 have H':=Aside0.mk H
 clear H
 go_enter Try.func100,Try.ntmps100
 go_wp2
 go_loopg [7] k (fun kq v7 w'=>∃ (x7_1:Int),v7 = .int .i64 x7_1∧Aside0 (impl_DevsOk.l0 kq l0 l0 (l0.length:Int) x7_1=some r)∧Aside0 (kq≤k)∧Aside0 (Below w.heap.size w w'))
 case atStart=>exact ⟨(0),rd_,H',⟨Nat.le_refl _⟩,⟨be⟩⟩
 case round=>
  clear H'
  try clear c1
  obtain ⟨x7_1,rfl,HA,HK1,HB⟩:=hrel
  cases gk with
  | zero=>exact absurd HA.out (by simp [impl_DevsOk.l0])
  | succ k1=>
   have H:=HA.out
   clear HA
   simp only [impl_DevsOk.l0] at H
   by_cases c2:x7_1 < (l0.length:Int)
   ·rw [if_pos c2] at H
    have c2b0:decide (x7_1 < (l0.length:Int))=true:=decide_eq_true c2
    clear c2
    by_cases c3:0≤x7_1
    ·rw [if_pos c3] at H
     have c3b0:decide (0≤x7_1)=true:=decide_eq_true c3
     clear c3
     by_cases c4:x7_1 < (l0.length:Int)
     ·rw [if_pos c4] at H
      have c4b0:decide (x7_1 < (l0.length:Int))=true:=decide_eq_true c4
      clear c4
      replace H:=Option.bind_eq_some_iff.mp H
      obtain ⟨t371,A50,H⟩:=H
      try dsimp only at H
      have A5:=Aside0.mk A50
      clear A50
      by_cases c6:t371=true
      ·subst c6
       rw [if_pos rfl] at H
       replace H:=Option.bind_eq_some_iff.mp H
       obtain ⟨t372,A70,H⟩:=H
       try dsimp only at H
       have A7:=Aside0.mk A70
       clear A70
       by_cases c8:t372=true
       ·subst c8
        rw [if_pos rfl] at H
        replace H:=Option.bind_eq_some_iff.mp H
        obtain ⟨t373,A90,H⟩:=H
        try dsimp only at H
        have A9:=Aside0.mk A90
        clear A90
        by_cases c10:t373=true
        ·subst c10
         rw [if_pos rfl] at H
         by_cases c11:x7_1 > 0
         ·rw [if_pos c11] at H
          have c11b0:decide (0 < x7_1)=true:=decide_eq_true c11
          clear c11
          obtain ⟨ji12,hji12⟩ : ∃ j_:Int,(wrap64 (x7_1 - 1))=j_:=⟨_,rfl⟩
          replace H:(if 0≤(ji12) then (if (ji12) < (l0.length:Int) then (if ((rd_T76 l0 (ji12)).f0) ≥ ((rd_T76 l0 x7_1).f0) then (some false) else (impl_DevsOk.l0 k1 l0 l0 (l0.length:Int) (wrap64 (x7_1+1)))) else (none)) else (none))=some r:=by first|(rw [hji12] at H;exact H)|(simp only [hji12] at H ⊢;exact H)
          (try rw [hji12] at A5)
          (try rw [hji12] at A7)
          (try rw [hji12] at A9)
          have hji12w:(IntKind.i64.wrap (x7_1 - 1))=ji12:=(i64_w _).trans hji12
          by_cases c13:0≤(ji12)
          ·rw [if_pos c13] at H
           have c13b0:decide (0≤(ji12))=true:=decide_eq_true c13
           clear c13
           by_cases c14:(ji12) < (l0.length:Int)
           ·rw [if_pos c14] at H
            have c14b0:decide ((ji12) < (l0.length:Int))=true:=decide_eq_true c14
            clear c14
            by_cases c15:((rd_T76 l0 (ji12)).f0) ≥ ((rd_T76 l0 x7_1).f0)
            ·rw [if_pos c15] at H
             have c15b0:decide (((rd_T76 l0 x7_1).f0)≤((rd_T76 l0 (ji12)).f0))=true:=decide_eq_true c15
             clear c15
             obtain rfl:=Option.some.inj H
             have p369:0≤(x7_1:Int):=of_decide_eq_true (by first|(with_reducible assumption)|assumption)
             have q369:x7_1 < (l0.length:Int):=of_decide_eq_true (by first|(with_reducible assumption)|assumption)
             obtain ⟨ad369,e369,hx369_0,hx369_1,hx369_2⟩:=at_T76 HR0.out x7_1 p369 q369
             cases e369
             replace hx369_0:=(HB.out.cell (World.block_lt_of_cell? w _ hx369_0)).trans hx369_0
             replace hx369_1:=(HB.out.cell (World.block_lt_of_cell? w _ hx369_1)).trans hx369_1
             replace hx369_2:=(HB.out.cell (World.block_lt_of_cell? w _ hx369_2)).trans hx369_2
             replace p369:=eq_true p369
             replace q369:=eq_true q369
             try go_wp2_with (first|((with_reducible refine gate_dst (N:=4) rfl ?_);refine box_event ?hg (N:=4) ?hd (cs:=#[.int .i64 0,.int .i64 0,.int .i64 0]) (t:=76) ?hr ?_;(case hd=>rfl);(case hg=>rfl);(case hr=>first|(go_simp;done)|(go_simp;rfl));intro gb370 hg w16 hbox hb;have n0_:=bs hb;have n1_:=Aside0.mk (hbox);have n2_:=Aside0.mk ((by rw [hg];exact (below_size be):w.heap.size≤gb370));have n3_:=Aside0.mk ((by rw [hg];exact (below_size be):w.heap.size≤gb370));clear HB;have HB:=n0_;have BK370:=n1_;have GW370:=n2_;have GE370:=n3_;clear n0_ n1_ n2_ n3_;clear hb hbox hg;have hcz17_0:w16.cell? ⟨gb370,0,none⟩=some (.int .i64 0):=(blk_cell BK370.out 0).trans rfl;have hcz17_1:w16.cell? ⟨gb370,1,none⟩=some (.int .i64 0):=(blk_cell BK370.out 1).trans rfl;have hcz17_2:w16.cell? ⟨gb370,2,none⟩=some (.int .i64 0):=(blk_cell BK370.out 2).trans rfl;have hfz17_0:=blk_frozen BK370.out 0;have hfz17_1:=blk_frozen BK370.out 1;have hfz17_2:=blk_frozen BK370.out 2))
             have n0_:Aside0 ((((w16.setCell ⟨gb370,0,none⟩ (.int .i64 ((rd_T76 l0 x7_1).f0))).setCell ⟨gb370,1,none⟩ (.int .i64 ((rd_T76 l0 x7_1).f1))).setCell ⟨gb370,2,none⟩ (.int .i64 ((rd_T76 l0 x7_1).f2))).heap[gb370]?=some (.cells #[.int .i64 ((rd_T76 l0 x7_1).f0),.int .i64 ((rd_T76 l0 x7_1).f1),.int .i64 ((rd_T76 l0 x7_1).f2)] 76 (0,0))):=⟨by (with_reducible repeat (first|refine blk_drewN ?_ _|refine blk_drew ?_|refine blk_alloc ?_ _));refine blk_put (cs:=#[.int .i64 ((rd_T76 l0 x7_1).f0),.int .i64 ((rd_T76 l0 x7_1).f1),.int .i64 0]) ?_ 2 _ rfl;(with_reducible repeat (first|refine blk_drewN ?_ _|refine blk_drew ?_|refine blk_alloc ?_ _));refine blk_put (cs:=#[.int .i64 ((rd_T76 l0 x7_1).f0),.int .i64 0,.int .i64 0]) ?_ 1 _ rfl;(with_reducible repeat (first|refine blk_drewN ?_ _|refine blk_drew ?_|refine blk_alloc ?_ _));refine blk_put (cs:=#[.int .i64 0,.int .i64 0,.int .i64 0]) ?_ 0 _ rfl;(with_reducible repeat (first|refine blk_drewN ?_ _|refine blk_drew ?_|refine blk_alloc ?_ _));exact BK370.out⟩
             have n1_:Aside0 (Below w.heap.size w (((w16.setCell ⟨gb370,0,none⟩ (.int .i64 ((rd_T76 l0 x7_1).f0))).setCell ⟨gb370,1,none⟩ (.int .i64 ((rd_T76 l0 x7_1).f1))).setCell ⟨gb370,2,none⟩ (.int .i64 ((rd_T76 l0 x7_1).f2)))):=⟨be⟩
             (try clear BK370);(try clear HB)
             generalize (((w16.setCell ⟨gb370,0,none⟩ (.int .i64 ((rd_T76 l0 x7_1).f0))).setCell ⟨gb370,1,none⟩ (.int .i64 ((rd_T76 l0 x7_1).f1))).setCell ⟨gb370,2,none⟩ (.int .i64 ((rd_T76 l0 x7_1).f2)))=w18 at n0_ n1_ ⊢
             have BK370:=n0_;have HB:=n1_;clear n0_ n1_;have n0_:=Aside0.mk (blk_drew BK370.out);have n1_:=Aside0.mk (below_drew1 HB.out);clear BK370 HB;have BK370:=n0_;have HB:=n1_;clear n0_ n1_
             have p374:0≤((ji12):Int):=of_decide_eq_true (by first|(with_reducible assumption)|assumption)
             have q374:(ji12) < (l0.length:Int):=of_decide_eq_true (by first|(with_reducible assumption)|assumption)
             obtain ⟨ad374,e374,hx374_0,hx374_1,hx374_2⟩:=at_T76 HR0.out (ji12) p374 q374
             have hw374_2:=hx374_2;have hw374_1:=hx374_1;have hw374_0:=hx374_0
             obtain rfl:ad369=ad374:=(by injection e374)
             replace hx374_0:=(HB.out.cell (World.block_lt_of_cell? w _ hx374_0)).trans hx374_0
             replace hx374_1:=(HB.out.cell (World.block_lt_of_cell? w _ hx374_1)).trans hx374_1
             replace hx374_2:=(HB.out.cell (World.block_lt_of_cell? w _ hx374_2)).trans hx374_2
             replace p374:=eq_true p374
             replace q374:=eq_true q374
             refine start_ (n:=31) (S:=fun w'=>w'.cell? ⟨gb370,0,none⟩=some (.int .i64 ((rd_T76 l0 x7_1).f0))∧w'.cell? ⟨gb370,1,none⟩=some (.int .i64 ((rd_T76 l0 x7_1).f1))∧w'.cell? ⟨gb370,2,none⟩=some (.int .i64 ((rd_T76 l0 x7_1).f2))∧w'.cell? (ad369.add (((ji12)).toNat * 3))=some (.int .i64 ((rd_T76 l0 (ji12)).f0))∧w'.cell? ⟨(ad369.add (((ji12)).toNat * 3)).block,(ad369.add (((ji12)).toNat * 3)).off+1,none⟩=some (.int .i64 ((rd_T76 l0 (ji12)).f1))∧w'.cell? ⟨(ad369.add (((ji12)).toNat * 3)).block,(ad369.add (((ji12)).toNat * 3)).off+2,none⟩=some (.int .i64 ((rd_T76 l0 (ji12)).f2))) (ds:=[]) (fl 31 0) (by kernel_rfl) rfl rfl ⟨(blk_cell BK370.out 0).trans rfl,(blk_cell BK370.out 1).trans rfl,(blk_cell BK370.out 2).trans rfl,((HB.out.cell (World.block_lt_of_cell? w _ hw374_0)).trans hw374_0),((HB.out.cell (World.block_lt_of_cell? w _ hw374_1)).trans hw374_1),((HB.out.cell (World.block_lt_of_cell? w _ hw374_2)).trans hw374_2)⟩ (fun hHeld=>?_);refine with_tabW impl_DevsOk.tab4 impl_DevsOk.bits4 (fun HT_ HW_=>?_)
             generalize w18.drew=w19 at BK370 HB hx374_0 hx374_1 hx374_2 hHeld ⊢
             refine pt 0 12 (fl 31 1) HT_ ?_
             refine tt 1 13 (fl 31 3) HT_ HW_ hHeld ?_
             refine ot 2 (some 14) (fl 31 7) HT_ (fun K hK=>?_)
             refine goes_ Try.func101 (by kernel_rfl) rfl #[.int .i64 ((rd_T76 l0 x7_1).f0),.int .i64 0,.int .i64 20] (by rfl) rfl rfl (by (try simp only [List.map_toArray,List.map_cons,List.map_nil]);first|done|rfl|(simp only [List.length_drop,List.length_take];rfl)) ?_
             with_reducible refine (impl_in.calls ((rd_T76 l0 x7_1).f0) 0 20 true _ A5.out).mono ?_
             rintro e w' ⟨rfl,⟨nd,rfl⟩⟩
             refine ⟨_,rfl,?_⟩
             refine hK.out _ _ ⟨(blk_cell BK370.out 0).trans rfl,(blk_cell BK370.out 1).trans rfl,(blk_cell BK370.out 2).trans rfl,((HB.out.cell (World.block_lt_of_cell? w _ hw374_0)).trans hw374_0),((HB.out.cell (World.block_lt_of_cell? w _ hw374_1)).trans hw374_1),((HB.out.cell (World.block_lt_of_cell? w _ hw374_2)).trans hw374_2)⟩ (fun hHeld=>?_)
             clear hK K
             refine no 14 ?_
             refine pt 3 15 (fl 31 15) HT_ ?_
             refine pt 4 16 (fl 31 31) HT_ ?_
             refine pt 5 17 (fl 31 63) HT_ ?_
             refine tt 6 18 (fl 31 127) HT_ HW_ hHeld ?_
             refine ot 7 (some 19) (fl 31 255) HT_ (fun K hK=>?_)
             refine goes_ Try.func101 (by kernel_rfl) rfl #[.int .i64 ((rd_T76 l0 x7_1).f1),.int .i64 0,.int .i64 20] (by rfl) rfl rfl (by (try simp only [List.map_toArray,List.map_cons,List.map_nil]);first|done|rfl|(simp only [List.length_drop,List.length_take];rfl)) ?_
             with_reducible refine (impl_in.calls ((rd_T76 l0 x7_1).f1) 0 20 true _ A7.out).mono ?_
             rintro e w' ⟨rfl,⟨nd,rfl⟩⟩
             refine ⟨_,rfl,?_⟩
             refine hK.out _ _ ⟨(blk_cell BK370.out 0).trans rfl,(blk_cell BK370.out 1).trans rfl,(blk_cell BK370.out 2).trans rfl,((HB.out.cell (World.block_lt_of_cell? w _ hw374_0)).trans hw374_0),((HB.out.cell (World.block_lt_of_cell? w _ hw374_1)).trans hw374_1),((HB.out.cell (World.block_lt_of_cell? w _ hw374_2)).trans hw374_2)⟩ (fun hHeld=>?_)
             clear hK K
             refine no 19 ?_
             refine pt 8 20 (fl 31 511) HT_ ?_
             refine pt 9 21 (fl 31 1023) HT_ ?_
             refine pt 10 22 (fl 31 2047) HT_ ?_
             refine pt 11 23 (fl 31 4095) HT_ ?_
             refine tt 12 24 (fl 31 8191) HT_ HW_ hHeld ?_
             refine ot 13 (some 25) (fl 31 16383) HT_ (fun K hK=>?_)
             refine goes_ Try.func101 (by kernel_rfl) rfl #[.int .i64 ((rd_T76 l0 x7_1).f2),.int .i64 1,.int .i64 1000] (by rfl) rfl rfl (by (try simp only [List.map_toArray,List.map_cons,List.map_nil]);first|done|rfl|(simp only [List.length_drop,List.length_take];rfl)) ?_
             with_reducible refine (impl_in.calls ((rd_T76 l0 x7_1).f2) 1 1000 true _ A9.out).mono ?_
             rintro e w' ⟨rfl,⟨nd,rfl⟩⟩
             refine ⟨_,rfl,?_⟩
             refine hK.out _ _ ⟨(blk_cell BK370.out 0).trans rfl,(blk_cell BK370.out 1).trans rfl,(blk_cell BK370.out 2).trans rfl,((HB.out.cell (World.block_lt_of_cell? w _ hw374_0)).trans hw374_0),((HB.out.cell (World.block_lt_of_cell? w _ hw374_1)).trans hw374_1),((HB.out.cell (World.block_lt_of_cell? w _ hw374_2)).trans hw374_2)⟩ (fun hHeld=>?_)
             clear hK K
             refine no 25 ?_
             refine pt 14 26 (fl 31 32767) HT_ ?_
             refine pt 15 27 (fl 31 65535) HT_ ?_
             refine pt 16 28 (fl 31 131071) HT_ ?_
             refine pt 17 29 (fl 31 262143) HT_ ?_
             refine pt 18 30 (fl 31 524287) HT_ ?_
             refine pt 19 31 (fl 31 1048575) HT_ ?_
             refine pt 20 32 (fl 31 2097151) HT_ ?_
             refine pt 21 33 (fl 31 4194303) HT_ ?_
             refine pt 22 34 (fl 31 8388607) HT_ ?_
             refine pt 23 35 (fl 31 16777215) HT_ ?_
             refine pt 24 36 (fl 31 33554431) HT_ ?_
             refine pt 26 38 (fl 31 100663295) HT_ ?_
             refine tt 25 37 (fl 31 134217727) HT_ HW_ hHeld ?_
             refine tt 27 39 (fl 31 268435455) HT_ HW_ hHeld ?_
             refine pt 28 40 (fl 31 536870911) HT_ ?_
             refine pt 29 41 (fl 31 1073741823) HT_ ?_
             refine pt 30 42 (fl 31 2147483647) HT_ ?_
             refine done_ (done_of HT_.out (by kernel_rfl)) ?_
             try go_wp2
             go_ret
             exact ⟨by first|rfl|(simp [errW_none,errW_some] <;> rfl)|(simp only [← hji12];first|rfl|(simp [errW_none,errW_some] <;> rfl))|(simp [*,errW_none,errW_some] <;> rfl),be⟩
            ·rw [if_neg c15] at H
             have c15b0:decide (((rd_T76 l0 x7_1).f0)≤((rd_T76 l0 (ji12)).f0))=false:=decide_eq_false c15
             clear c15
             have H':=Aside0.mk H
             clear H
             have p369:0≤(x7_1:Int):=of_decide_eq_true (by first|(with_reducible assumption)|assumption)
             have q369:x7_1 < (l0.length:Int):=of_decide_eq_true (by first|(with_reducible assumption)|assumption)
             obtain ⟨ad369,e369,hx369_0,hx369_1,hx369_2⟩:=at_T76 HR0.out x7_1 p369 q369
             cases e369
             replace hx369_0:=(HB.out.cell (World.block_lt_of_cell? w _ hx369_0)).trans hx369_0
             replace hx369_1:=(HB.out.cell (World.block_lt_of_cell? w _ hx369_1)).trans hx369_1
             replace hx369_2:=(HB.out.cell (World.block_lt_of_cell? w _ hx369_2)).trans hx369_2
             replace p369:=eq_true p369
             replace q369:=eq_true q369
             try go_wp2_with (first|((with_reducible refine gate_dst (N:=4) rfl ?_);refine box_event ?hg (N:=4) ?hd (cs:=#[.int .i64 0,.int .i64 0,.int .i64 0]) (t:=76) ?hr ?_;(case hd=>rfl);(case hg=>rfl);(case hr=>first|(go_simp;done)|(go_simp;rfl));intro gb370 hg w20 hbox hb;have n0_:=bs hb;have n1_:=Aside0.mk (hbox);have n2_:=Aside0.mk ((by rw [hg];exact (below_size be):w.heap.size≤gb370));have n3_:=Aside0.mk ((by rw [hg];exact (below_size be):w.heap.size≤gb370));clear HB;have HB:=n0_;have BK370:=n1_;have GW370:=n2_;have GE370:=n3_;clear n0_ n1_ n2_ n3_;clear hb hbox hg;have hcz21_0:w20.cell? ⟨gb370,0,none⟩=some (.int .i64 0):=(blk_cell BK370.out 0).trans rfl;have hcz21_1:w20.cell? ⟨gb370,1,none⟩=some (.int .i64 0):=(blk_cell BK370.out 1).trans rfl;have hcz21_2:w20.cell? ⟨gb370,2,none⟩=some (.int .i64 0):=(blk_cell BK370.out 2).trans rfl;have hfz21_0:=blk_frozen BK370.out 0;have hfz21_1:=blk_frozen BK370.out 1;have hfz21_2:=blk_frozen BK370.out 2))
             have n0_:Aside0 ((((w20.setCell ⟨gb370,0,none⟩ (.int .i64 ((rd_T76 l0 x7_1).f0))).setCell ⟨gb370,1,none⟩ (.int .i64 ((rd_T76 l0 x7_1).f1))).setCell ⟨gb370,2,none⟩ (.int .i64 ((rd_T76 l0 x7_1).f2))).heap[gb370]?=some (.cells #[.int .i64 ((rd_T76 l0 x7_1).f0),.int .i64 ((rd_T76 l0 x7_1).f1),.int .i64 ((rd_T76 l0 x7_1).f2)] 76 (0,0))):=⟨by (with_reducible repeat (first|refine blk_drewN ?_ _|refine blk_drew ?_|refine blk_alloc ?_ _));refine blk_put (cs:=#[.int .i64 ((rd_T76 l0 x7_1).f0),.int .i64 ((rd_T76 l0 x7_1).f1),.int .i64 0]) ?_ 2 _ rfl;(with_reducible repeat (first|refine blk_drewN ?_ _|refine blk_drew ?_|refine blk_alloc ?_ _));refine blk_put (cs:=#[.int .i64 ((rd_T76 l0 x7_1).f0),.int .i64 0,.int .i64 0]) ?_ 1 _ rfl;(with_reducible repeat (first|refine blk_drewN ?_ _|refine blk_drew ?_|refine blk_alloc ?_ _));refine blk_put (cs:=#[.int .i64 0,.int .i64 0,.int .i64 0]) ?_ 0 _ rfl;(with_reducible repeat (first|refine blk_drewN ?_ _|refine blk_drew ?_|refine blk_alloc ?_ _));exact BK370.out⟩
             have n1_:Aside0 (Below w.heap.size w (((w20.setCell ⟨gb370,0,none⟩ (.int .i64 ((rd_T76 l0 x7_1).f0))).setCell ⟨gb370,1,none⟩ (.int .i64 ((rd_T76 l0 x7_1).f1))).setCell ⟨gb370,2,none⟩ (.int .i64 ((rd_T76 l0 x7_1).f2)))):=⟨be⟩
             (try clear BK370);(try clear HB)
             generalize (((w20.setCell ⟨gb370,0,none⟩ (.int .i64 ((rd_T76 l0 x7_1).f0))).setCell ⟨gb370,1,none⟩ (.int .i64 ((rd_T76 l0 x7_1).f1))).setCell ⟨gb370,2,none⟩ (.int .i64 ((rd_T76 l0 x7_1).f2)))=w22 at n0_ n1_ ⊢
             have BK370:=n0_;have HB:=n1_;clear n0_ n1_;have n0_:=Aside0.mk (blk_drew BK370.out);have n1_:=Aside0.mk (below_drew1 HB.out);clear BK370 HB;have BK370:=n0_;have HB:=n1_;clear n0_ n1_
             have p374:0≤((ji12):Int):=of_decide_eq_true (by first|(with_reducible assumption)|assumption)
             have q374:(ji12) < (l0.length:Int):=of_decide_eq_true (by first|(with_reducible assumption)|assumption)
             obtain ⟨ad374,e374,hx374_0,hx374_1,hx374_2⟩:=at_T76 HR0.out (ji12) p374 q374
             have hw374_2:=hx374_2;have hw374_1:=hx374_1;have hw374_0:=hx374_0
             obtain rfl:ad369=ad374:=(by injection e374)
             replace hx374_0:=(HB.out.cell (World.block_lt_of_cell? w _ hx374_0)).trans hx374_0
             replace hx374_1:=(HB.out.cell (World.block_lt_of_cell? w _ hx374_1)).trans hx374_1
             replace hx374_2:=(HB.out.cell (World.block_lt_of_cell? w _ hx374_2)).trans hx374_2
             replace p374:=eq_true p374
             replace q374:=eq_true q374
             refine start_ (n:=31) (S:=fun w'=>w'.cell? ⟨gb370,0,none⟩=some (.int .i64 ((rd_T76 l0 x7_1).f0))∧w'.cell? ⟨gb370,1,none⟩=some (.int .i64 ((rd_T76 l0 x7_1).f1))∧w'.cell? ⟨gb370,2,none⟩=some (.int .i64 ((rd_T76 l0 x7_1).f2))∧w'.cell? (ad369.add (((ji12)).toNat * 3))=some (.int .i64 ((rd_T76 l0 (ji12)).f0))∧w'.cell? ⟨(ad369.add (((ji12)).toNat * 3)).block,(ad369.add (((ji12)).toNat * 3)).off+1,none⟩=some (.int .i64 ((rd_T76 l0 (ji12)).f1))∧w'.cell? ⟨(ad369.add (((ji12)).toNat * 3)).block,(ad369.add (((ji12)).toNat * 3)).off+2,none⟩=some (.int .i64 ((rd_T76 l0 (ji12)).f2))) (ds:=[]) (fl 31 0) (by kernel_rfl) rfl rfl ⟨(blk_cell BK370.out 0).trans rfl,(blk_cell BK370.out 1).trans rfl,(blk_cell BK370.out 2).trans rfl,((HB.out.cell (World.block_lt_of_cell? w _ hw374_0)).trans hw374_0),((HB.out.cell (World.block_lt_of_cell? w _ hw374_1)).trans hw374_1),((HB.out.cell (World.block_lt_of_cell? w _ hw374_2)).trans hw374_2)⟩ (fun hHeld=>?_);refine with_tabW impl_DevsOk.tab4 impl_DevsOk.bits4 (fun HT_ HW_=>?_)
             generalize w22.drew=w23 at BK370 HB hx374_0 hx374_1 hx374_2 hHeld ⊢
             refine pt 0 12 (fl 31 1) HT_ ?_
             refine tt 1 13 (fl 31 3) HT_ HW_ hHeld ?_
             refine ot 2 (some 14) (fl 31 7) HT_ (fun K hK=>?_)
             refine goes_ Try.func101 (by kernel_rfl) rfl #[.int .i64 ((rd_T76 l0 x7_1).f0),.int .i64 0,.int .i64 20] (by rfl) rfl rfl (by (try simp only [List.map_toArray,List.map_cons,List.map_nil]);first|done|rfl|(simp only [List.length_drop,List.length_take];rfl)) ?_
             with_reducible refine (impl_in.calls ((rd_T76 l0 x7_1).f0) 0 20 true _ A5.out).mono ?_
             rintro e w' ⟨rfl,⟨nd,rfl⟩⟩
             refine ⟨_,rfl,?_⟩
             refine hK.out _ _ ⟨(blk_cell BK370.out 0).trans rfl,(blk_cell BK370.out 1).trans rfl,(blk_cell BK370.out 2).trans rfl,((HB.out.cell (World.block_lt_of_cell? w _ hw374_0)).trans hw374_0),((HB.out.cell (World.block_lt_of_cell? w _ hw374_1)).trans hw374_1),((HB.out.cell (World.block_lt_of_cell? w _ hw374_2)).trans hw374_2)⟩ (fun hHeld=>?_)
             clear hK K
             refine no 14 ?_
             refine pt 3 15 (fl 31 15) HT_ ?_
             refine pt 4 16 (fl 31 31) HT_ ?_
             refine pt 5 17 (fl 31 63) HT_ ?_
             refine tt 6 18 (fl 31 127) HT_ HW_ hHeld ?_
             refine ot 7 (some 19) (fl 31 255) HT_ (fun K hK=>?_)
             refine goes_ Try.func101 (by kernel_rfl) rfl #[.int .i64 ((rd_T76 l0 x7_1).f1),.int .i64 0,.int .i64 20] (by rfl) rfl rfl (by (try simp only [List.map_toArray,List.map_cons,List.map_nil]);first|done|rfl|(simp only [List.length_drop,List.length_take];rfl)) ?_
             with_reducible refine (impl_in.calls ((rd_T76 l0 x7_1).f1) 0 20 true _ A7.out).mono ?_
             rintro e w' ⟨rfl,⟨nd,rfl⟩⟩
             refine ⟨_,rfl,?_⟩
             refine hK.out _ _ ⟨(blk_cell BK370.out 0).trans rfl,(blk_cell BK370.out 1).trans rfl,(blk_cell BK370.out 2).trans rfl,((HB.out.cell (World.block_lt_of_cell? w _ hw374_0)).trans hw374_0),((HB.out.cell (World.block_lt_of_cell? w _ hw374_1)).trans hw374_1),((HB.out.cell (World.block_lt_of_cell? w _ hw374_2)).trans hw374_2)⟩ (fun hHeld=>?_)
             clear hK K
             refine no 19 ?_
             refine pt 8 20 (fl 31 511) HT_ ?_
             refine pt 9 21 (fl 31 1023) HT_ ?_
             refine pt 10 22 (fl 31 2047) HT_ ?_
             refine pt 11 23 (fl 31 4095) HT_ ?_
             refine tt 12 24 (fl 31 8191) HT_ HW_ hHeld ?_
             refine ot 13 (some 25) (fl 31 16383) HT_ (fun K hK=>?_)
             refine goes_ Try.func101 (by kernel_rfl) rfl #[.int .i64 ((rd_T76 l0 x7_1).f2),.int .i64 1,.int .i64 1000] (by rfl) rfl rfl (by (try simp only [List.map_toArray,List.map_cons,List.map_nil]);first|done|rfl|(simp only [List.length_drop,List.length_take];rfl)) ?_
             with_reducible refine (impl_in.calls ((rd_T76 l0 x7_1).f2) 1 1000 true _ A9.out).mono ?_
             rintro e w' ⟨rfl,⟨nd,rfl⟩⟩
             refine ⟨_,rfl,?_⟩
             refine hK.out _ _ ⟨(blk_cell BK370.out 0).trans rfl,(blk_cell BK370.out 1).trans rfl,(blk_cell BK370.out 2).trans rfl,((HB.out.cell (World.block_lt_of_cell? w _ hw374_0)).trans hw374_0),((HB.out.cell (World.block_lt_of_cell? w _ hw374_1)).trans hw374_1),((HB.out.cell (World.block_lt_of_cell? w _ hw374_2)).trans hw374_2)⟩ (fun hHeld=>?_)
             clear hK K
             refine no 25 ?_
             refine pt 14 26 (fl 31 32767) HT_ ?_
             refine pt 15 27 (fl 31 65535) HT_ ?_
             refine pt 16 28 (fl 31 131071) HT_ ?_
             refine pt 17 29 (fl 31 262143) HT_ ?_
             refine pt 18 30 (fl 31 524287) HT_ ?_
             refine pt 19 31 (fl 31 1048575) HT_ ?_
             refine pt 20 32 (fl 31 2097151) HT_ ?_
             refine pt 21 33 (fl 31 4194303) HT_ ?_
             refine pt 22 34 (fl 31 8388607) HT_ ?_
             refine pt 23 35 (fl 31 16777215) HT_ ?_
             refine pt 24 36 (fl 31 33554431) HT_ ?_
             refine pt 26 38 (fl 31 100663295) HT_ ?_
             refine tt 25 37 (fl 31 134217727) HT_ HW_ hHeld ?_
             refine tt 27 39 (fl 31 268435455) HT_ HW_ hHeld ?_
             refine pt 28 40 (fl 31 536870911) HT_ ?_
             refine pt 29 41 (fl 31 1073741823) HT_ ?_
             refine pt 30 42 (fl 31 2147483647) HT_ ?_
             refine done_ (done_of HT_.out (by kernel_rfl)) ?_
             try go_wp2
             go_roundg k1
             case measure=>have:=HK1.out;omega
             case rel=>exact ⟨(wrap64 (x7_1+1)),rd_,H',⟨by have:=HK1.out;omega⟩,⟨be⟩⟩
           ·rw [if_neg c14] at H
            exact absurd H (by simp)
          ·rw [if_neg c13] at H
           exact absurd H (by simp)
         ·rw [if_neg c11] at H
          have c11b0:decide (0 < x7_1)=false:=decide_eq_false c11
          clear c11
          have H':=Aside0.mk H
          clear H
          have p369:0≤(x7_1:Int):=of_decide_eq_true (by first|(with_reducible assumption)|assumption)
          have q369:x7_1 < (l0.length:Int):=of_decide_eq_true (by first|(with_reducible assumption)|assumption)
          obtain ⟨ad369,e369,hx369_0,hx369_1,hx369_2⟩:=at_T76 HR0.out x7_1 p369 q369
          cases e369
          replace hx369_0:=(HB.out.cell (World.block_lt_of_cell? w _ hx369_0)).trans hx369_0
          replace hx369_1:=(HB.out.cell (World.block_lt_of_cell? w _ hx369_1)).trans hx369_1
          replace hx369_2:=(HB.out.cell (World.block_lt_of_cell? w _ hx369_2)).trans hx369_2
          replace p369:=eq_true p369
          replace q369:=eq_true q369
          try go_wp2_with (first|((with_reducible refine gate_dst (N:=4) rfl ?_);refine box_event ?hg (N:=4) ?hd (cs:=#[.int .i64 0,.int .i64 0,.int .i64 0]) (t:=76) ?hr ?_;(case hd=>rfl);(case hg=>rfl);(case hr=>first|(go_simp;done)|(go_simp;rfl));intro gb370 hg w24 hbox hb;have n0_:=bs hb;have n1_:=Aside0.mk (hbox);have n2_:=Aside0.mk ((by rw [hg];exact (below_size be):w.heap.size≤gb370));have n3_:=Aside0.mk ((by rw [hg];exact (below_size be):w.heap.size≤gb370));clear HB;have HB:=n0_;have BK370:=n1_;have GW370:=n2_;have GE370:=n3_;clear n0_ n1_ n2_ n3_;clear hb hbox hg;have hcz25_0:w24.cell? ⟨gb370,0,none⟩=some (.int .i64 0):=(blk_cell BK370.out 0).trans rfl;have hcz25_1:w24.cell? ⟨gb370,1,none⟩=some (.int .i64 0):=(blk_cell BK370.out 1).trans rfl;have hcz25_2:w24.cell? ⟨gb370,2,none⟩=some (.int .i64 0):=(blk_cell BK370.out 2).trans rfl;have hfz25_0:=blk_frozen BK370.out 0;have hfz25_1:=blk_frozen BK370.out 1;have hfz25_2:=blk_frozen BK370.out 2))
          have n0_:Aside0 ((((w24.setCell ⟨gb370,0,none⟩ (.int .i64 ((rd_T76 l0 x7_1).f0))).setCell ⟨gb370,1,none⟩ (.int .i64 ((rd_T76 l0 x7_1).f1))).setCell ⟨gb370,2,none⟩ (.int .i64 ((rd_T76 l0 x7_1).f2))).heap[gb370]?=some (.cells #[.int .i64 ((rd_T76 l0 x7_1).f0),.int .i64 ((rd_T76 l0 x7_1).f1),.int .i64 ((rd_T76 l0 x7_1).f2)] 76 (0,0))):=⟨by (with_reducible repeat (first|refine blk_drewN ?_ _|refine blk_drew ?_|refine blk_alloc ?_ _));refine blk_put (cs:=#[.int .i64 ((rd_T76 l0 x7_1).f0),.int .i64 ((rd_T76 l0 x7_1).f1),.int .i64 0]) ?_ 2 _ rfl;(with_reducible repeat (first|refine blk_drewN ?_ _|refine blk_drew ?_|refine blk_alloc ?_ _));refine blk_put (cs:=#[.int .i64 ((rd_T76 l0 x7_1).f0),.int .i64 0,.int .i64 0]) ?_ 1 _ rfl;(with_reducible repeat (first|refine blk_drewN ?_ _|refine blk_drew ?_|refine blk_alloc ?_ _));refine blk_put (cs:=#[.int .i64 0,.int .i64 0,.int .i64 0]) ?_ 0 _ rfl;(with_reducible repeat (first|refine blk_drewN ?_ _|refine blk_drew ?_|refine blk_alloc ?_ _));exact BK370.out⟩
          have n1_:Aside0 (Below w.heap.size w (((w24.setCell ⟨gb370,0,none⟩ (.int .i64 ((rd_T76 l0 x7_1).f0))).setCell ⟨gb370,1,none⟩ (.int .i64 ((rd_T76 l0 x7_1).f1))).setCell ⟨gb370,2,none⟩ (.int .i64 ((rd_T76 l0 x7_1).f2)))):=⟨be⟩
          (try clear BK370);(try clear HB)
          generalize (((w24.setCell ⟨gb370,0,none⟩ (.int .i64 ((rd_T76 l0 x7_1).f0))).setCell ⟨gb370,1,none⟩ (.int .i64 ((rd_T76 l0 x7_1).f1))).setCell ⟨gb370,2,none⟩ (.int .i64 ((rd_T76 l0 x7_1).f2)))=w26 at n0_ n1_ ⊢
          have BK370:=n0_;have HB:=n1_;clear n0_ n1_;have n0_:=Aside0.mk (blk_drew BK370.out);have n1_:=Aside0.mk (below_drew1 HB.out);clear BK370 HB;have BK370:=n0_;have HB:=n1_;clear n0_ n1_
          refine start_ (n:=31) (S:=fun w'=>w'.cell? ⟨gb370,0,none⟩=some (.int .i64 ((rd_T76 l0 x7_1).f0))∧w'.cell? ⟨gb370,1,none⟩=some (.int .i64 ((rd_T76 l0 x7_1).f1))∧w'.cell? ⟨gb370,2,none⟩=some (.int .i64 ((rd_T76 l0 x7_1).f2))) (ds:=[]) (fl 31 0) (by kernel_rfl) rfl rfl ⟨(blk_cell BK370.out 0).trans rfl,(blk_cell BK370.out 1).trans rfl,(blk_cell BK370.out 2).trans rfl⟩ (fun hHeld=>?_);refine with_tabW impl_DevsOk.tab4 impl_DevsOk.bits4 (fun HT_ HW_=>?_)
          generalize w26.drew=w27 at BK370 HB hHeld ⊢
          refine pt 0 12 (fl 31 1) HT_ ?_
          refine tt 1 13 (fl 31 3) HT_ HW_ hHeld ?_
          refine ot 2 (some 14) (fl 31 7) HT_ (fun K hK=>?_)
          refine goes_ Try.func101 (by kernel_rfl) rfl #[.int .i64 ((rd_T76 l0 x7_1).f0),.int .i64 0,.int .i64 20] (by rfl) rfl rfl (by (try simp only [List.map_toArray,List.map_cons,List.map_nil]);first|done|rfl|(simp only [List.length_drop,List.length_take];rfl)) ?_
          with_reducible refine (impl_in.calls ((rd_T76 l0 x7_1).f0) 0 20 true _ A5.out).mono ?_
          rintro e w' ⟨rfl,⟨nd,rfl⟩⟩
          refine ⟨_,rfl,?_⟩
          refine hK.out _ _ ⟨(blk_cell BK370.out 0).trans rfl,(blk_cell BK370.out 1).trans rfl,(blk_cell BK370.out 2).trans rfl⟩ (fun hHeld=>?_)
          clear hK K
          refine no 14 ?_
          refine pt 3 15 (fl 31 15) HT_ ?_
          refine pt 4 16 (fl 31 31) HT_ ?_
          refine pt 5 17 (fl 31 63) HT_ ?_
          refine tt 6 18 (fl 31 127) HT_ HW_ hHeld ?_
          refine ot 7 (some 19) (fl 31 255) HT_ (fun K hK=>?_)
          refine goes_ Try.func101 (by kernel_rfl) rfl #[.int .i64 ((rd_T76 l0 x7_1).f1),.int .i64 0,.int .i64 20] (by rfl) rfl rfl (by (try simp only [List.map_toArray,List.map_cons,List.map_nil]);first|done|rfl|(simp only [List.length_drop,List.length_take];rfl)) ?_
          with_reducible refine (impl_in.calls ((rd_T76 l0 x7_1).f1) 0 20 true _ A7.out).mono ?_
          rintro e w' ⟨rfl,⟨nd,rfl⟩⟩
          refine ⟨_,rfl,?_⟩
          refine hK.out _ _ ⟨(blk_cell BK370.out 0).trans rfl,(blk_cell BK370.out 1).trans rfl,(blk_cell BK370.out 2).trans rfl⟩ (fun hHeld=>?_)
          clear hK K
          refine no 19 ?_
          refine pt 8 20 (fl 31 511) HT_ ?_
          refine pt 9 21 (fl 31 1023) HT_ ?_
          refine pt 10 22 (fl 31 2047) HT_ ?_
          refine pt 11 23 (fl 31 4095) HT_ ?_
          refine tt 12 24 (fl 31 8191) HT_ HW_ hHeld ?_
          refine ot 13 (some 25) (fl 31 16383) HT_ (fun K hK=>?_)
          refine goes_ Try.func101 (by kernel_rfl) rfl #[.int .i64 ((rd_T76 l0 x7_1).f2),.int .i64 1,.int .i64 1000] (by rfl) rfl rfl (by (try simp only [List.map_toArray,List.map_cons,List.map_nil]);first|done|rfl|(simp only [List.length_drop,List.length_take];rfl)) ?_
          with_reducible refine (impl_in.calls ((rd_T76 l0 x7_1).f2) 1 1000 true _ A9.out).mono ?_
          rintro e w' ⟨rfl,⟨nd,rfl⟩⟩
          refine ⟨_,rfl,?_⟩
          refine hK.out _ _ ⟨(blk_cell BK370.out 0).trans rfl,(blk_cell BK370.out 1).trans rfl,(blk_cell BK370.out 2).trans rfl⟩ (fun hHeld=>?_)
          clear hK K
          refine no 25 ?_
          refine pt 14 26 (fl 31 32767) HT_ ?_
          refine pt 15 27 (fl 31 65535) HT_ ?_
          refine pt 16 28 (fl 31 131071) HT_ ?_
          refine pt 17 29 (fl 31 262143) HT_ ?_
          refine pt 18 30 (fl 31 524287) HT_ ?_
          refine pt 19 31 (fl 31 1048575) HT_ ?_
          refine ut 20 32 (fl 31 2097151) HT_ ?_
          refine ut 21 33 (fl 31 4194303) HT_ ?_
          refine ut 22 34 (fl 31 8388607) HT_ ?_
          refine ut 23 35 (fl 31 16777215) HT_ ?_
          refine ut 24 36 (fl 31 33554431) HT_ ?_
          refine ut 25 37 (fl 31 67108863) HT_ ?_
          refine ut 26 38 (fl 31 134217727) HT_ ?_
          refine ut 27 39 (fl 31 268435455) HT_ ?_
          refine ut 28 40 (fl 31 536870911) HT_ ?_
          refine pt 29 41 (fl 31 1073741823) HT_ ?_
          refine pt 30 42 (fl 31 2147483647) HT_ ?_
          refine done_ (done_of HT_.out (by kernel_rfl)) ?_
          try go_wp2
          go_roundg k1
          case measure=>have:=HK1.out;omega
          case rel=>exact ⟨(wrap64 (x7_1+1)),rd_,H',⟨by have:=HK1.out;omega⟩,⟨be⟩⟩
        ·replace c10:=Bool.eq_false_iff.mpr c10
         subst c10
         replace H:=(if_neg (show ¬ (false=true) by decide)).symm.trans H
         obtain rfl:=Option.some.inj H
         have p369:0≤(x7_1:Int):=of_decide_eq_true (by first|(with_reducible assumption)|assumption)
         have q369:x7_1 < (l0.length:Int):=of_decide_eq_true (by first|(with_reducible assumption)|assumption)
         obtain ⟨ad369,e369,hx369_0,hx369_1,hx369_2⟩:=at_T76 HR0.out x7_1 p369 q369
         cases e369
         replace hx369_0:=(HB.out.cell (World.block_lt_of_cell? w _ hx369_0)).trans hx369_0
         replace hx369_1:=(HB.out.cell (World.block_lt_of_cell? w _ hx369_1)).trans hx369_1
         replace hx369_2:=(HB.out.cell (World.block_lt_of_cell? w _ hx369_2)).trans hx369_2
         replace p369:=eq_true p369
         replace q369:=eq_true q369
         try go_wp2_with (first|((with_reducible refine gate_dst (N:=4) rfl ?_);refine box_event ?hg (N:=4) ?hd (cs:=#[.int .i64 0,.int .i64 0,.int .i64 0]) (t:=76) ?hr ?_;(case hd=>rfl);(case hg=>rfl);(case hr=>first|(go_simp;done)|(go_simp;rfl));intro gb370 hg w28 hbox hb;have n0_:=bs hb;have n1_:=Aside0.mk (hbox);have n2_:=Aside0.mk ((by rw [hg];exact (below_size be):w.heap.size≤gb370));have n3_:=Aside0.mk ((by rw [hg];exact (below_size be):w.heap.size≤gb370));clear HB;have HB:=n0_;have BK370:=n1_;have GW370:=n2_;have GE370:=n3_;clear n0_ n1_ n2_ n3_;clear hb hbox hg;have hcz29_0:w28.cell? ⟨gb370,0,none⟩=some (.int .i64 0):=(blk_cell BK370.out 0).trans rfl;have hcz29_1:w28.cell? ⟨gb370,1,none⟩=some (.int .i64 0):=(blk_cell BK370.out 1).trans rfl;have hcz29_2:w28.cell? ⟨gb370,2,none⟩=some (.int .i64 0):=(blk_cell BK370.out 2).trans rfl;have hfz29_0:=blk_frozen BK370.out 0;have hfz29_1:=blk_frozen BK370.out 1;have hfz29_2:=blk_frozen BK370.out 2))
         have n0_:Aside0 ((((w28.setCell ⟨gb370,0,none⟩ (.int .i64 ((rd_T76 l0 x7_1).f0))).setCell ⟨gb370,1,none⟩ (.int .i64 ((rd_T76 l0 x7_1).f1))).setCell ⟨gb370,2,none⟩ (.int .i64 ((rd_T76 l0 x7_1).f2))).heap[gb370]?=some (.cells #[.int .i64 ((rd_T76 l0 x7_1).f0),.int .i64 ((rd_T76 l0 x7_1).f1),.int .i64 ((rd_T76 l0 x7_1).f2)] 76 (0,0))):=⟨by (with_reducible repeat (first|refine blk_drewN ?_ _|refine blk_drew ?_|refine blk_alloc ?_ _));refine blk_put (cs:=#[.int .i64 ((rd_T76 l0 x7_1).f0),.int .i64 ((rd_T76 l0 x7_1).f1),.int .i64 0]) ?_ 2 _ rfl;(with_reducible repeat (first|refine blk_drewN ?_ _|refine blk_drew ?_|refine blk_alloc ?_ _));refine blk_put (cs:=#[.int .i64 ((rd_T76 l0 x7_1).f0),.int .i64 0,.int .i64 0]) ?_ 1 _ rfl;(with_reducible repeat (first|refine blk_drewN ?_ _|refine blk_drew ?_|refine blk_alloc ?_ _));refine blk_put (cs:=#[.int .i64 0,.int .i64 0,.int .i64 0]) ?_ 0 _ rfl;(with_reducible repeat (first|refine blk_drewN ?_ _|refine blk_drew ?_|refine blk_alloc ?_ _));exact BK370.out⟩
         have n1_:Aside0 (Below w.heap.size w (((w28.setCell ⟨gb370,0,none⟩ (.int .i64 ((rd_T76 l0 x7_1).f0))).setCell ⟨gb370,1,none⟩ (.int .i64 ((rd_T76 l0 x7_1).f1))).setCell ⟨gb370,2,none⟩ (.int .i64 ((rd_T76 l0 x7_1).f2)))):=⟨be⟩
         (try clear BK370);(try clear HB)
         generalize (((w28.setCell ⟨gb370,0,none⟩ (.int .i64 ((rd_T76 l0 x7_1).f0))).setCell ⟨gb370,1,none⟩ (.int .i64 ((rd_T76 l0 x7_1).f1))).setCell ⟨gb370,2,none⟩ (.int .i64 ((rd_T76 l0 x7_1).f2)))=w30 at n0_ n1_ ⊢
         have BK370:=n0_;have HB:=n1_;clear n0_ n1_;have n0_:=Aside0.mk (blk_drew BK370.out);have n1_:=Aside0.mk (below_drew1 HB.out);clear BK370 HB;have BK370:=n0_;have HB:=n1_;clear n0_ n1_
         refine start_ (n:=31) (S:=fun w'=>w'.cell? ⟨gb370,0,none⟩=some (.int .i64 ((rd_T76 l0 x7_1).f0))∧w'.cell? ⟨gb370,1,none⟩=some (.int .i64 ((rd_T76 l0 x7_1).f1))∧w'.cell? ⟨gb370,2,none⟩=some (.int .i64 ((rd_T76 l0 x7_1).f2))) (ds:=[]) (fl 31 0) (by kernel_rfl) rfl rfl ⟨(blk_cell BK370.out 0).trans rfl,(blk_cell BK370.out 1).trans rfl,(blk_cell BK370.out 2).trans rfl⟩ (fun hHeld=>?_);refine with_tabW impl_DevsOk.tab4 impl_DevsOk.bits4 (fun HT_ HW_=>?_)
         generalize w30.drew=w31 at BK370 HB hHeld ⊢
         refine pt 0 12 (fl 31 1) HT_ ?_
         refine tt 1 13 (fl 31 3) HT_ HW_ hHeld ?_
         refine ot 2 (some 14) (fl 31 7) HT_ (fun K hK=>?_)
         refine goes_ Try.func101 (by kernel_rfl) rfl #[.int .i64 ((rd_T76 l0 x7_1).f0),.int .i64 0,.int .i64 20] (by rfl) rfl rfl (by (try simp only [List.map_toArray,List.map_cons,List.map_nil]);first|done|rfl|(simp only [List.length_drop,List.length_take];rfl)) ?_
         with_reducible refine (impl_in.calls ((rd_T76 l0 x7_1).f0) 0 20 true _ A5.out).mono ?_
         rintro e w' ⟨rfl,⟨nd,rfl⟩⟩
         refine ⟨_,rfl,?_⟩
         refine hK.out _ _ ⟨(blk_cell BK370.out 0).trans rfl,(blk_cell BK370.out 1).trans rfl,(blk_cell BK370.out 2).trans rfl⟩ (fun hHeld=>?_)
         clear hK K
         refine no 14 ?_
         refine pt 3 15 (fl 31 15) HT_ ?_
         refine pt 4 16 (fl 31 31) HT_ ?_
         refine pt 5 17 (fl 31 63) HT_ ?_
         refine tt 6 18 (fl 31 127) HT_ HW_ hHeld ?_
         refine ot 7 (some 19) (fl 31 255) HT_ (fun K hK=>?_)
         refine goes_ Try.func101 (by kernel_rfl) rfl #[.int .i64 ((rd_T76 l0 x7_1).f1),.int .i64 0,.int .i64 20] (by rfl) rfl rfl (by (try simp only [List.map_toArray,List.map_cons,List.map_nil]);first|done|rfl|(simp only [List.length_drop,List.length_take];rfl)) ?_
         with_reducible refine (impl_in.calls ((rd_T76 l0 x7_1).f1) 0 20 true _ A7.out).mono ?_
         rintro e w' ⟨rfl,⟨nd,rfl⟩⟩
         refine ⟨_,rfl,?_⟩
         refine hK.out _ _ ⟨(blk_cell BK370.out 0).trans rfl,(blk_cell BK370.out 1).trans rfl,(blk_cell BK370.out 2).trans rfl⟩ (fun hHeld=>?_)
         clear hK K
         refine no 19 ?_
         refine pt 8 20 (fl 31 511) HT_ ?_
         refine pt 9 21 (fl 31 1023) HT_ ?_
         refine pt 10 22 (fl 31 2047) HT_ ?_
         refine pt 11 23 (fl 31 4095) HT_ ?_
         refine tt 12 24 (fl 31 8191) HT_ HW_ hHeld ?_
         refine ot 13 (some 25) (fl 31 16383) HT_ (fun K hK=>?_)
         refine goes_ Try.func101 (by kernel_rfl) rfl #[.int .i64 ((rd_T76 l0 x7_1).f2),.int .i64 1,.int .i64 1000] (by rfl) rfl rfl (by (try simp only [List.map_toArray,List.map_cons,List.map_nil]);first|done|rfl|(simp only [List.length_drop,List.length_take];rfl)) ?_
         with_reducible refine (impl_in.calls ((rd_T76 l0 x7_1).f2) 1 1000 false _ A9.out).mono ?_
         rintro e w' ⟨rfl,⟨nd,rfl⟩⟩
         refine ⟨_,rfl,?_⟩
         refine hK.out _ _ ⟨(blk_cell BK370.out 0).trans rfl,(blk_cell BK370.out 1).trans rfl,(blk_cell BK370.out 2).trans rfl⟩ (fun hHeld=>?_)
         clear hK K
         refine no 25 ?_
         refine pt 14 26 (fl 31 32767) HT_ ?_
         refine pt 15 27 (fl 31 65535) HT_ ?_
         refine pt 16 28 (fl 31 131071) HT_ ?_
         refine ut 17 29 (fl 31 262143) HT_ ?_
         refine ut 18 30 (fl 31 524287) HT_ ?_
         refine ut 19 31 (fl 31 1048575) HT_ ?_
         refine ut 20 32 (fl 31 2097151) HT_ ?_
         refine ut 21 33 (fl 31 4194303) HT_ ?_
         refine ut 22 34 (fl 31 8388607) HT_ ?_
         refine ut 23 35 (fl 31 16777215) HT_ ?_
         refine ut 24 36 (fl 31 33554431) HT_ ?_
         refine ut 25 37 (fl 31 67108863) HT_ ?_
         refine ut 26 38 (fl 31 134217727) HT_ ?_
         refine ut 27 39 (fl 31 268435455) HT_ ?_
         refine ut 28 40 (fl 31 536870911) HT_ ?_
         refine ut 29 41 (fl 31 1073741823) HT_ ?_
         refine pt 30 42 (fl 31 2147483647) HT_ ?_
         refine done_ (done_of HT_.out (by kernel_rfl)) ?_
         try go_wp2
         go_ret
         exact ⟨by first|rfl|(simp [errW_none,errW_some] <;> rfl)|(simp [*,errW_none,errW_some] <;> rfl),be⟩
       ·replace c8:=Bool.eq_false_iff.mpr c8
        subst c8
        replace H:=(if_neg (show ¬ (false=true) by decide)).symm.trans H
        obtain rfl:=Option.some.inj H
        have p369:0≤(x7_1:Int):=of_decide_eq_true (by first|(with_reducible assumption)|assumption)
        have q369:x7_1 < (l0.length:Int):=of_decide_eq_true (by first|(with_reducible assumption)|assumption)
        obtain ⟨ad369,e369,hx369_0,hx369_1,hx369_2⟩:=at_T76 HR0.out x7_1 p369 q369
        cases e369
        replace hx369_0:=(HB.out.cell (World.block_lt_of_cell? w _ hx369_0)).trans hx369_0
        replace hx369_1:=(HB.out.cell (World.block_lt_of_cell? w _ hx369_1)).trans hx369_1
        replace hx369_2:=(HB.out.cell (World.block_lt_of_cell? w _ hx369_2)).trans hx369_2
        replace p369:=eq_true p369
        replace q369:=eq_true q369
        try go_wp2_with (first|((with_reducible refine gate_dst (N:=4) rfl ?_);refine box_event ?hg (N:=4) ?hd (cs:=#[.int .i64 0,.int .i64 0,.int .i64 0]) (t:=76) ?hr ?_;(case hd=>rfl);(case hg=>rfl);(case hr=>first|(go_simp;done)|(go_simp;rfl));intro gb370 hg w32 hbox hb;have n0_:=bs hb;have n1_:=Aside0.mk (hbox);have n2_:=Aside0.mk ((by rw [hg];exact (below_size be):w.heap.size≤gb370));have n3_:=Aside0.mk ((by rw [hg];exact (below_size be):w.heap.size≤gb370));clear HB;have HB:=n0_;have BK370:=n1_;have GW370:=n2_;have GE370:=n3_;clear n0_ n1_ n2_ n3_;clear hb hbox hg;have hcz33_0:w32.cell? ⟨gb370,0,none⟩=some (.int .i64 0):=(blk_cell BK370.out 0).trans rfl;have hcz33_1:w32.cell? ⟨gb370,1,none⟩=some (.int .i64 0):=(blk_cell BK370.out 1).trans rfl;have hcz33_2:w32.cell? ⟨gb370,2,none⟩=some (.int .i64 0):=(blk_cell BK370.out 2).trans rfl;have hfz33_0:=blk_frozen BK370.out 0;have hfz33_1:=blk_frozen BK370.out 1;have hfz33_2:=blk_frozen BK370.out 2))
        have n0_:Aside0 ((((w32.setCell ⟨gb370,0,none⟩ (.int .i64 ((rd_T76 l0 x7_1).f0))).setCell ⟨gb370,1,none⟩ (.int .i64 ((rd_T76 l0 x7_1).f1))).setCell ⟨gb370,2,none⟩ (.int .i64 ((rd_T76 l0 x7_1).f2))).heap[gb370]?=some (.cells #[.int .i64 ((rd_T76 l0 x7_1).f0),.int .i64 ((rd_T76 l0 x7_1).f1),.int .i64 ((rd_T76 l0 x7_1).f2)] 76 (0,0))):=⟨by (with_reducible repeat (first|refine blk_drewN ?_ _|refine blk_drew ?_|refine blk_alloc ?_ _));refine blk_put (cs:=#[.int .i64 ((rd_T76 l0 x7_1).f0),.int .i64 ((rd_T76 l0 x7_1).f1),.int .i64 0]) ?_ 2 _ rfl;(with_reducible repeat (first|refine blk_drewN ?_ _|refine blk_drew ?_|refine blk_alloc ?_ _));refine blk_put (cs:=#[.int .i64 ((rd_T76 l0 x7_1).f0),.int .i64 0,.int .i64 0]) ?_ 1 _ rfl;(with_reducible repeat (first|refine blk_drewN ?_ _|refine blk_drew ?_|refine blk_alloc ?_ _));refine blk_put (cs:=#[.int .i64 0,.int .i64 0,.int .i64 0]) ?_ 0 _ rfl;(with_reducible repeat (first|refine blk_drewN ?_ _|refine blk_drew ?_|refine blk_alloc ?_ _));exact BK370.out⟩
        have n1_:Aside0 (Below w.heap.size w (((w32.setCell ⟨gb370,0,none⟩ (.int .i64 ((rd_T76 l0 x7_1).f0))).setCell ⟨gb370,1,none⟩ (.int .i64 ((rd_T76 l0 x7_1).f1))).setCell ⟨gb370,2,none⟩ (.int .i64 ((rd_T76 l0 x7_1).f2)))):=⟨be⟩
        (try clear BK370);(try clear HB)
        generalize (((w32.setCell ⟨gb370,0,none⟩ (.int .i64 ((rd_T76 l0 x7_1).f0))).setCell ⟨gb370,1,none⟩ (.int .i64 ((rd_T76 l0 x7_1).f1))).setCell ⟨gb370,2,none⟩ (.int .i64 ((rd_T76 l0 x7_1).f2)))=w34 at n0_ n1_ ⊢
        have BK370:=n0_;have HB:=n1_;clear n0_ n1_;have n0_:=Aside0.mk (blk_drew BK370.out);have n1_:=Aside0.mk (below_drew1 HB.out);clear BK370 HB;have BK370:=n0_;have HB:=n1_;clear n0_ n1_
        refine start_ (n:=31) (S:=fun w'=>w'.cell? ⟨gb370,0,none⟩=some (.int .i64 ((rd_T76 l0 x7_1).f0))∧w'.cell? ⟨gb370,1,none⟩=some (.int .i64 ((rd_T76 l0 x7_1).f1))∧w'.cell? ⟨gb370,2,none⟩=some (.int .i64 ((rd_T76 l0 x7_1).f2))) (ds:=[]) (fl 31 0) (by kernel_rfl) rfl rfl ⟨(blk_cell BK370.out 0).trans rfl,(blk_cell BK370.out 1).trans rfl,(blk_cell BK370.out 2).trans rfl⟩ (fun hHeld=>?_);refine with_tabW impl_DevsOk.tab4 impl_DevsOk.bits4 (fun HT_ HW_=>?_)
        generalize w34.drew=w35 at BK370 HB hHeld ⊢
        refine pt 0 12 (fl 31 1) HT_ ?_
        refine tt 1 13 (fl 31 3) HT_ HW_ hHeld ?_
        refine ot 2 (some 14) (fl 31 7) HT_ (fun K hK=>?_)
        refine goes_ Try.func101 (by kernel_rfl) rfl #[.int .i64 ((rd_T76 l0 x7_1).f0),.int .i64 0,.int .i64 20] (by rfl) rfl rfl (by (try simp only [List.map_toArray,List.map_cons,List.map_nil]);first|done|rfl|(simp only [List.length_drop,List.length_take];rfl)) ?_
        with_reducible refine (impl_in.calls ((rd_T76 l0 x7_1).f0) 0 20 true _ A5.out).mono ?_
        rintro e w' ⟨rfl,⟨nd,rfl⟩⟩
        refine ⟨_,rfl,?_⟩
        refine hK.out _ _ ⟨(blk_cell BK370.out 0).trans rfl,(blk_cell BK370.out 1).trans rfl,(blk_cell BK370.out 2).trans rfl⟩ (fun hHeld=>?_)
        clear hK K
        refine no 14 ?_
        refine pt 3 15 (fl 31 15) HT_ ?_
        refine pt 4 16 (fl 31 31) HT_ ?_
        refine pt 5 17 (fl 31 63) HT_ ?_
        refine tt 6 18 (fl 31 127) HT_ HW_ hHeld ?_
        refine ot 7 (some 19) (fl 31 255) HT_ (fun K hK=>?_)
        refine goes_ Try.func101 (by kernel_rfl) rfl #[.int .i64 ((rd_T76 l0 x7_1).f1),.int .i64 0,.int .i64 20] (by rfl) rfl rfl (by (try simp only [List.map_toArray,List.map_cons,List.map_nil]);first|done|rfl|(simp only [List.length_drop,List.length_take];rfl)) ?_
        with_reducible refine (impl_in.calls ((rd_T76 l0 x7_1).f1) 0 20 false _ A7.out).mono ?_
        rintro e w' ⟨rfl,⟨nd,rfl⟩⟩
        refine ⟨_,rfl,?_⟩
        refine hK.out _ _ ⟨(blk_cell BK370.out 0).trans rfl,(blk_cell BK370.out 1).trans rfl,(blk_cell BK370.out 2).trans rfl⟩ (fun hHeld=>?_)
        clear hK K
        refine no 19 ?_
        refine pt 8 20 (fl 31 511) HT_ ?_
        refine pt 9 21 (fl 31 1023) HT_ ?_
        refine pt 10 22 (fl 31 2047) HT_ ?_
        refine ut 11 23 (fl 31 4095) HT_ ?_
        refine ut 12 24 (fl 31 8191) HT_ ?_
        refine ut 13 25 (fl 31 16383) HT_ ?_
        refine ut 14 26 (fl 31 32767) HT_ ?_
        refine pt 15 27 (fl 31 65535) HT_ ?_
        refine pt 16 28 (fl 31 131071) HT_ ?_
        refine ut 17 29 (fl 31 262143) HT_ ?_
        refine ut 18 30 (fl 31 524287) HT_ ?_
        refine ut 19 31 (fl 31 1048575) HT_ ?_
        refine ut 20 32 (fl 31 2097151) HT_ ?_
        refine ut 21 33 (fl 31 4194303) HT_ ?_
        refine ut 22 34 (fl 31 8388607) HT_ ?_
        refine ut 23 35 (fl 31 16777215) HT_ ?_
        refine ut 24 36 (fl 31 33554431) HT_ ?_
        refine ut 25 37 (fl 31 67108863) HT_ ?_
        refine ut 26 38 (fl 31 134217727) HT_ ?_
        refine ut 27 39 (fl 31 268435455) HT_ ?_
        refine ut 28 40 (fl 31 536870911) HT_ ?_
        refine ut 29 41 (fl 31 1073741823) HT_ ?_
        refine pt 30 42 (fl 31 2147483647) HT_ ?_
        refine done_ (done_of HT_.out (by kernel_rfl)) ?_
        try go_wp2
        go_ret
        exact ⟨by first|rfl|(simp [errW_none,errW_some] <;> rfl)|(simp [*,errW_none,errW_some] <;> rfl),be⟩
      ·replace c6:=Bool.eq_false_iff.mpr c6
       subst c6
       replace H:=(if_neg (show ¬ (false=true) by decide)).symm.trans H
       obtain rfl:=Option.some.inj H
       have p369:0≤(x7_1:Int):=of_decide_eq_true (by first|(with_reducible assumption)|assumption)
       have q369:x7_1 < (l0.length:Int):=of_decide_eq_true (by first|(with_reducible assumption)|assumption)
       obtain ⟨ad369,e369,hx369_0,hx369_1,hx369_2⟩:=at_T76 HR0.out x7_1 p369 q369
       cases e369
       replace hx369_0:=(HB.out.cell (World.block_lt_of_cell? w _ hx369_0)).trans hx369_0
       replace hx369_1:=(HB.out.cell (World.block_lt_of_cell? w _ hx369_1)).trans hx369_1
       replace hx369_2:=(HB.out.cell (World.block_lt_of_cell? w _ hx369_2)).trans hx369_2
       replace p369:=eq_true p369
       replace q369:=eq_true q369
       try go_wp2_with (first|((with_reducible refine gate_dst (N:=4) rfl ?_);refine box_event ?hg (N:=4) ?hd (cs:=#[.int .i64 0,.int .i64 0,.int .i64 0]) (t:=76) ?hr ?_;(case hd=>rfl);(case hg=>rfl);(case hr=>first|(go_simp;done)|(go_simp;rfl));intro gb370 hg w36 hbox hb;have n0_:=bs hb;have n1_:=Aside0.mk (hbox);have n2_:=Aside0.mk ((by rw [hg];exact (below_size be):w.heap.size≤gb370));have n3_:=Aside0.mk ((by rw [hg];exact (below_size be):w.heap.size≤gb370));clear HB;have HB:=n0_;have BK370:=n1_;have GW370:=n2_;have GE370:=n3_;clear n0_ n1_ n2_ n3_;clear hb hbox hg;have hcz37_0:w36.cell? ⟨gb370,0,none⟩=some (.int .i64 0):=(blk_cell BK370.out 0).trans rfl;have hcz37_1:w36.cell? ⟨gb370,1,none⟩=some (.int .i64 0):=(blk_cell BK370.out 1).trans rfl;have hcz37_2:w36.cell? ⟨gb370,2,none⟩=some (.int .i64 0):=(blk_cell BK370.out 2).trans rfl;have hfz37_0:=blk_frozen BK370.out 0;have hfz37_1:=blk_frozen BK370.out 1;have hfz37_2:=blk_frozen BK370.out 2))
       have n0_:Aside0 ((((w36.setCell ⟨gb370,0,none⟩ (.int .i64 ((rd_T76 l0 x7_1).f0))).setCell ⟨gb370,1,none⟩ (.int .i64 ((rd_T76 l0 x7_1).f1))).setCell ⟨gb370,2,none⟩ (.int .i64 ((rd_T76 l0 x7_1).f2))).heap[gb370]?=some (.cells #[.int .i64 ((rd_T76 l0 x7_1).f0),.int .i64 ((rd_T76 l0 x7_1).f1),.int .i64 ((rd_T76 l0 x7_1).f2)] 76 (0,0))):=⟨by (with_reducible repeat (first|refine blk_drewN ?_ _|refine blk_drew ?_|refine blk_alloc ?_ _));refine blk_put (cs:=#[.int .i64 ((rd_T76 l0 x7_1).f0),.int .i64 ((rd_T76 l0 x7_1).f1),.int .i64 0]) ?_ 2 _ rfl;(with_reducible repeat (first|refine blk_drewN ?_ _|refine blk_drew ?_|refine blk_alloc ?_ _));refine blk_put (cs:=#[.int .i64 ((rd_T76 l0 x7_1).f0),.int .i64 0,.int .i64 0]) ?_ 1 _ rfl;(with_reducible repeat (first|refine blk_drewN ?_ _|refine blk_drew ?_|refine blk_alloc ?_ _));refine blk_put (cs:=#[.int .i64 0,.int .i64 0,.int .i64 0]) ?_ 0 _ rfl;(with_reducible repeat (first|refine blk_drewN ?_ _|refine blk_drew ?_|refine blk_alloc ?_ _));exact BK370.out⟩
       have n1_:Aside0 (Below w.heap.size w (((w36.setCell ⟨gb370,0,none⟩ (.int .i64 ((rd_T76 l0 x7_1).f0))).setCell ⟨gb370,1,none⟩ (.int .i64 ((rd_T76 l0 x7_1).f1))).setCell ⟨gb370,2,none⟩ (.int .i64 ((rd_T76 l0 x7_1).f2)))):=⟨be⟩
       (try clear BK370);(try clear HB)
       generalize (((w36.setCell ⟨gb370,0,none⟩ (.int .i64 ((rd_T76 l0 x7_1).f0))).setCell ⟨gb370,1,none⟩ (.int .i64 ((rd_T76 l0 x7_1).f1))).setCell ⟨gb370,2,none⟩ (.int .i64 ((rd_T76 l0 x7_1).f2)))=w38 at n0_ n1_ ⊢
       have BK370:=n0_;have HB:=n1_;clear n0_ n1_;have n0_:=Aside0.mk (blk_drew BK370.out);have n1_:=Aside0.mk (below_drew1 HB.out);clear BK370 HB;have BK370:=n0_;have HB:=n1_;clear n0_ n1_
       refine start_ (n:=31) (S:=fun w'=>w'.cell? ⟨gb370,0,none⟩=some (.int .i64 ((rd_T76 l0 x7_1).f0))∧w'.cell? ⟨gb370,1,none⟩=some (.int .i64 ((rd_T76 l0 x7_1).f1))∧w'.cell? ⟨gb370,2,none⟩=some (.int .i64 ((rd_T76 l0 x7_1).f2))) (ds:=[]) (fl 31 0) (by kernel_rfl) rfl rfl ⟨(blk_cell BK370.out 0).trans rfl,(blk_cell BK370.out 1).trans rfl,(blk_cell BK370.out 2).trans rfl⟩ (fun hHeld=>?_);refine with_tabW impl_DevsOk.tab4 impl_DevsOk.bits4 (fun HT_ HW_=>?_)
       generalize w38.drew=w39 at BK370 HB hHeld ⊢
       refine pt 0 12 (fl 31 1) HT_ ?_
       refine tt 1 13 (fl 31 3) HT_ HW_ hHeld ?_
       refine ot 2 (some 14) (fl 31 7) HT_ (fun K hK=>?_)
       refine goes_ Try.func101 (by kernel_rfl) rfl #[.int .i64 ((rd_T76 l0 x7_1).f0),.int .i64 0,.int .i64 20] (by rfl) rfl rfl (by (try simp only [List.map_toArray,List.map_cons,List.map_nil]);first|done|rfl|(simp only [List.length_drop,List.length_take];rfl)) ?_
       with_reducible refine (impl_in.calls ((rd_T76 l0 x7_1).f0) 0 20 false _ A5.out).mono ?_
       rintro e w' ⟨rfl,⟨nd,rfl⟩⟩
       refine ⟨_,rfl,?_⟩
       refine hK.out _ _ ⟨(blk_cell BK370.out 0).trans rfl,(blk_cell BK370.out 1).trans rfl,(blk_cell BK370.out 2).trans rfl⟩ (fun hHeld=>?_)
       clear hK K
       refine no 14 ?_
       refine pt 3 15 (fl 31 15) HT_ ?_
       refine pt 4 16 (fl 31 31) HT_ ?_
       refine ut 5 17 (fl 31 63) HT_ ?_
       refine ut 6 18 (fl 31 127) HT_ ?_
       refine ut 7 19 (fl 31 255) HT_ ?_
       refine ut 8 20 (fl 31 511) HT_ ?_
       refine pt 9 21 (fl 31 1023) HT_ ?_
       refine pt 10 22 (fl 31 2047) HT_ ?_
       refine ut 11 23 (fl 31 4095) HT_ ?_
       refine ut 12 24 (fl 31 8191) HT_ ?_
       refine ut 13 25 (fl 31 16383) HT_ ?_
       refine ut 14 26 (fl 31 32767) HT_ ?_
       refine pt 15 27 (fl 31 65535) HT_ ?_
       refine pt 16 28 (fl 31 131071) HT_ ?_
       refine ut 17 29 (fl 31 262143) HT_ ?_
       refine ut 18 30 (fl 31 524287) HT_ ?_
       refine ut 19 31 (fl 31 1048575) HT_ ?_
       refine ut 20 32 (fl 31 2097151) HT_ ?_
       refine ut 21 33 (fl 31 4194303) HT_ ?_
       refine ut 22 34 (fl 31 8388607) HT_ ?_
       refine ut 23 35 (fl 31 16777215) HT_ ?_
       refine ut 24 36 (fl 31 33554431) HT_ ?_
       refine ut 25 37 (fl 31 67108863) HT_ ?_
       refine ut 26 38 (fl 31 134217727) HT_ ?_
       refine ut 27 39 (fl 31 268435455) HT_ ?_
       refine ut 28 40 (fl 31 536870911) HT_ ?_
       refine ut 29 41 (fl 31 1073741823) HT_ ?_
       refine pt 30 42 (fl 31 2147483647) HT_ ?_
       refine done_ (done_of HT_.out (by kernel_rfl)) ?_
       try go_wp2
       go_ret
       exact ⟨by first|rfl|(simp [errW_none,errW_some] <;> rfl)|(simp [*,errW_none,errW_some] <;> rfl),be⟩
     ·rw [if_neg c4] at H
      exact absurd H (by simp)
    ·rw [if_neg c3] at H
     exact absurd H (by simp)
   ·rw [if_neg c2] at H
    have c2b0:decide (x7_1 < (l0.length:Int))=false:=decide_eq_false c2
    clear c2
    replace H:=Option.bind_eq_some_iff.mp H
    obtain ⟨t368,A400,H⟩:=H
    try dsimp only at H
    have A40:=Aside0.mk A400
    clear A400
    obtain rfl:=Option.some.inj H
    go_wp2_with (first|((with_reducible refine gate_callee (f:=101) rfl ?_);refine goesL_ (some 46) rfl rfl Try.func101 (by kernel_rfl) rfl #[.int .i64 (l0.length:Int),.int .i64 1,.int .i64 12] rfl (by (try simp only [List.map_toArray,List.map_cons,List.map_nil]);first|done|rfl|(simp only [List.length_drop,List.length_take];rfl)) ?_;(with_reducible refine (impl_in.calls (l0.length:Int) 1 12 t368 _ A40.out).mono ?_);rintro e w' ⟨rfl,⟨nd,rfl⟩⟩;refine ⟨_,rfl,?_⟩))
    go_ret
    exact ⟨by first|rfl|(simp [errW_none,errW_some] <;> rfl)|(simp [*,errW_none,errW_some] <;> rfl),be⟩
end Go.Proofs.Ytbhllgifciaepaa.PFnBest
