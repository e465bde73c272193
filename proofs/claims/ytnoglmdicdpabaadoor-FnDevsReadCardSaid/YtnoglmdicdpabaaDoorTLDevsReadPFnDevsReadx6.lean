/- Trimmed by a program of this session (trim.py). Not trusted: Lean checks it. -/
import Derived.Test.YtnoglmdicdpabaaDoorTLDevsReadPFnDevsReadx0
import Derived.Test.YtnoglmdicdpabaaDoorTLDevsReadPFnDevsReadx3
import Derived.Test.YtnoglmdicdpabaaDoorTLDevsReadPFnDevsReadx5
namespace Go.Proofs.YtnoglmdicdpabaaDoor.PFnDevsRead
open Go.RowKit Go.Proofs.YtnoglmdicdpabaaDoorW.PrintWords Go.Proofs.YtnoglmdicdpabaaDoorW.PrintLast Go.Proofs.YtnoglmdicdpabaaDoorW.PrintMore Go.Proofs.YtnoglmdicdpabaaDoor.St
attribute [local go_sem] max2_int min2_int max_two min_two max_three min_three max_four min_four
set_option linter.unusedVariables false
set_option linter.unusedSimpArgs false
def spec_DevsText.l0:Nat→List (S53)→ByteArray→Int→Option (ByteArray)
 | 0,_,_,_=>none
 | k+1,x0,x3,x4=>if x4 < (x0.length:Int) then (if x4 > 0 then (if x3.size+1≤9223372036854775807 then (if 0≤x4 then ((spec_l2Text.f k ((rd_T53 x0 x4).f0)).bind fun t197=>(if (x3 ++ (⟨#[32]⟩:ByteArray)).size+t197.size≤9223372036854775807 then (if ((x3 ++ (⟨#[32]⟩:ByteArray)) ++ t197).size+1≤9223372036854775807 then ((spec_l2Text.f k ((rd_T53 x0 x4).f1)).bind fun t199=>(if (((x3 ++ (⟨#[32]⟩:ByteArray)) ++ t197) ++ (⟨#[58]⟩:ByteArray)).size+t199.size≤9223372036854775807 then (if ((((x3 ++ (⟨#[32]⟩:ByteArray)) ++ t197) ++ (⟨#[58]⟩:ByteArray)) ++ t199).size+1≤9223372036854775807 then ((spec_l2Text.f k ((rd_T53 x0 x4).f2)).bind fun t201=>(if (((((x3 ++ (⟨#[32]⟩:ByteArray)) ++ t197) ++ (⟨#[58]⟩:ByteArray)) ++ t199) ++ (⟨#[58]⟩:ByteArray)).size+t201.size≤9223372036854775807 then (spec_DevsText.l0 k x0 ((((((x3 ++ (⟨#[32]⟩:ByteArray)) ++ t197) ++ (⟨#[58]⟩:ByteArray)) ++ t199) ++ (⟨#[58]⟩:ByteArray)) ++ t201) (wrap64 (x4+1))) else (none))) else (none)) else (none))) else (none)) else (none))) else (none)) else (none)) else (if 0≤x4 then ((spec_l2Text.f k ((rd_T53 x0 x4).f0)).bind fun t203=>(if x3.size+t203.size≤9223372036854775807 then (if (x3 ++ t203).size+1≤9223372036854775807 then ((spec_l2Text.f k ((rd_T53 x0 x4).f1)).bind fun t205=>(if ((x3 ++ t203) ++ (⟨#[58]⟩:ByteArray)).size+t205.size≤9223372036854775807 then (if (((x3 ++ t203) ++ (⟨#[58]⟩:ByteArray)) ++ t205).size+1≤9223372036854775807 then ((spec_l2Text.f k ((rd_T53 x0 x4).f2)).bind fun t207=>(if ((((x3 ++ t203) ++ (⟨#[58]⟩:ByteArray)) ++ t205) ++ (⟨#[58]⟩:ByteArray)).size+t207.size≤9223372036854775807 then (spec_DevsText.l0 k x0 (((((x3 ++ t203) ++ (⟨#[58]⟩:ByteArray)) ++ t205) ++ (⟨#[58]⟩:ByteArray)) ++ t207) (wrap64 (x4+1))) else (none))) else (none)) else (none))) else (none)) else (none))) else (none))) else (some x3)
def spec_DevsText.f (k:Nat) (l0:List (S53)):Option (ByteArray):=(spec_DevsOk.f k l0).bind fun t195=>(if t195=true then (spec_DevsText.l0 k l0 (⟨#[]⟩:ByteArray) 0) else (some (⟨#[]⟩:ByteArray)))
def spec_DevsText.T9:Bool × List (List Nat × List Nat):=(true,[([],[]),([],[]),([],[]),([1,2],[1,2]),([3],[3]),([4],[4]),([5],[5]),([0,6],[0,6]),([7],[7]),([],[]),([],[]),([9,10],[9,10]),([11],[11]),([12],[12]),([13,6],[13]),([8,14],[8,14]),([15],[15]),([],[]),([],[]),([17,18],[17,18]),([19],[19]),([20],[20]),([21,14],[21]),([16,22],[16,22]),([23,22,0,1,2,3,4,5,6,7,8,9,10,11,12,13,14,15,16,17,18,19,20,21,22,23],[0,23])])
def spec_DevsText.B9:List Nat:=[0,0,0,6,14,30,62,127,255,0,0,1536,3584,7680,15998,32767,65535,0,0,393216,917504,1966080,4095614,8388607,16777215]
theorem spec_DevsText.tab9:rtab .any (opsOf Tryd.f15 9)=spec_DevsText.T9:=by kernel_rfl
theorem spec_DevsText.bits9:waitsOk spec_DevsText.T9.2 spec_DevsText.B9=true:=by kernel_rfl
set_option maxHeartbeats 8000000 in
set_option maxRecDepth 100000 in
theorem spec_DevsText.calls (k:Nat) (A0:Option Addr) (c0:Nat) (l0:List (S53)) (r:ByteArray) (w:World) (hr0:Kd.C k53 w A0 l0.length l0) (hc0:l0.length≤c0) (h:spec_DevsText.f k l0=some r) :
  Calls Tryd.prog 15 #[.slice A0 l0.length c0] w fun e w'=>e = .returned (.string r)∧Below w.heap.size w w':=by
 have HR0:=Aside0.mk hr0
 have HC0:=Aside0.mk hc0
 clear hr0 hc0
 have HB:=Aside0.mk (Below.refl w.heap.size w)
 have H:((spec_DevsOk.f k l0).bind fun t195=>(if t195=true then (spec_DevsText.l0 k l0 (⟨#[]⟩:ByteArray) 0) else (some (⟨#[]⟩:ByteArray))))=some r:=h
 clear h
 replace H:=Option.bind_eq_some_iff.mp H
 obtain ⟨t195,A20,H⟩:=H
 try dsimp only at H
 have A2:=Aside0.mk A20
 clear A20
 by_cases c3:t195=true
 ·subst c3
  rw [if_pos rfl] at H
  have H':=Aside0.mk H
  clear H
  go_enter Tryd.func15,Tryd.ntmps15
  go_wp2_with (first|((with_reducible refine gate_callee (f:=36) rfl ?_);refine goesL_ (some 6) rfl rfl Tryd.func36 (by kernel_rfl) rfl #[.slice A0 l0.length c0] rfl (by (try simp only [List.map_toArray,List.map_cons,List.map_nil]);first|done|rfl|(simp only [List.length_drop,List.length_take];rfl)) ?_;(with_reducible refine (spec_DevsOk.calls k _ _ l0 true _ ?side1 ?side2 A2.out).mono ?_);(case side1=>exact sC HR0);(case side2=>exact HC0.out);rintro e w4 ⟨rfl,hb⟩;refine ⟨_,rfl,?_⟩;have n0_:=bs hb;clear HB;have HB:=n0_;clear n0_;(try clear hb);(try clear hb2);(try clear hk);(try clear hi)))
  go_loopg [3,4] k (fun kq v3 v4 w'=>∃ (x3_1:ByteArray) (x4_1:Int),v3 = .string x3_1∧v4 = .int .i64 x4_1∧Aside0 (spec_DevsText.l0 kq l0 x3_1 x4_1=some r)∧Aside0 (kq≤k)∧Aside0 (Below w.heap.size w w'))
  case atStart=>exact ⟨((⟨#[]⟩:ByteArray)),(0),rd_,rd_,H',⟨Nat.le_refl _⟩,⟨be⟩⟩
  case round=>
   clear H'
   try clear c1
   try clear p2
   try clear c3
   obtain ⟨x3_1,x4_1,rfl,rfl,HA,HK1,HB⟩:=hrel
   cases gk with
   | zero=>exact absurd HA.out (by simp [spec_DevsText.l0])
   | succ k1=>
    have H:=HA.out
    clear HA
    simp only [spec_DevsText.l0] at H
    by_cases c5:x4_1 < (l0.length:Int)
    ·rw [if_pos c5] at H
     have c5b0:decide (x4_1 < (l0.length:Int))=true:=decide_eq_true c5
     clear c5
     by_cases c6:x4_1 > 0
     ·rw [if_pos c6] at H
      have c6b0:decide (0 < x4_1)=true:=decide_eq_true c6
      clear c6
      by_cases c7:x3_1.size+1≤9223372036854775807
      ·rw [if_pos c7] at H
       have c7b0:=eq_true c7
       have c7b1:decide (x3_1.size+1≤9223372036854775807)=true:=decide_eq_true c7
       try have c7b2:(9223372036854775807 < x3_1.size+1)=False:=eq_false (Nat.not_lt.2 c7)
       by_cases c8:0≤x4_1
       ·rw [if_pos c8] at H
        have c8b0:decide (0≤x4_1)=true:=decide_eq_true c8
        clear c8
        replace H:=Option.bind_eq_some_iff.mp H
        obtain ⟨t197,A90,H⟩:=H
        try dsimp only at H
        have A9:=Aside0.mk A90
        clear A90
        by_cases c10:(x3_1 ++ (⟨#[32]⟩:ByteArray)).size+t197.size≤9223372036854775807
        ·rw [if_pos c10] at H
         have c10b0:=eq_true c10
         have c10b1:decide ((x3_1 ++ (⟨#[32]⟩:ByteArray)).size+t197.size≤9223372036854775807)=true:=decide_eq_true c10
         try have c10b2:(9223372036854775807 < (x3_1 ++ (⟨#[32]⟩:ByteArray)).size+t197.size)=False:=eq_false (Nat.not_lt.2 c10)
         try (have c10b3:=Nat.not_lt.2 c10;simp only [ByteArray.size_append,one_size] at c10b3;replace c10b3:=eq_false c10b3)
         by_cases c11:((x3_1 ++ (⟨#[32]⟩:ByteArray)) ++ t197).size+1≤9223372036854775807
         ·rw [if_pos c11] at H
          have c11b0:=eq_true c11
          have c11b1:decide (((x3_1 ++ (⟨#[32]⟩:ByteArray)) ++ t197).size+1≤9223372036854775807)=true:=decide_eq_true c11
          try have c11b2:(9223372036854775807 < ((x3_1 ++ (⟨#[32]⟩:ByteArray)) ++ t197).size+1)=False:=eq_false (Nat.not_lt.2 c11)
          try (have c11b3:=Nat.not_lt.2 c11;simp only [ByteArray.size_append,one_size] at c11b3;replace c11b3:=eq_false c11b3)
          replace H:=Option.bind_eq_some_iff.mp H
          obtain ⟨t199,A120,H⟩:=H
          try dsimp only at H
          have A12:=Aside0.mk A120
          clear A120
          by_cases c13:(((x3_1 ++ (⟨#[32]⟩:ByteArray)) ++ t197) ++ (⟨#[58]⟩:ByteArray)).size+t199.size≤9223372036854775807
          ·rw [if_pos c13] at H
           have c13b0:=eq_true c13
           have c13b1:decide ((((x3_1 ++ (⟨#[32]⟩:ByteArray)) ++ t197) ++ (⟨#[58]⟩:ByteArray)).size+t199.size≤9223372036854775807)=true:=decide_eq_true c13
           try have c13b2:(9223372036854775807 < (((x3_1 ++ (⟨#[32]⟩:ByteArray)) ++ t197) ++ (⟨#[58]⟩:ByteArray)).size+t199.size)=False:=eq_false (Nat.not_lt.2 c13)
           try (have c13b3:=Nat.not_lt.2 c13;simp only [ByteArray.size_append,one_size] at c13b3;replace c13b3:=eq_false c13b3)
           by_cases c14:((((x3_1 ++ (⟨#[32]⟩:ByteArray)) ++ t197) ++ (⟨#[58]⟩:ByteArray)) ++ t199).size+1≤9223372036854775807
           ·rw [if_pos c14] at H
            have c14b0:=eq_true c14
            have c14b1:decide (((((x3_1 ++ (⟨#[32]⟩:ByteArray)) ++ t197) ++ (⟨#[58]⟩:ByteArray)) ++ t199).size+1≤9223372036854775807)=true:=decide_eq_true c14
            try have c14b2:(9223372036854775807 < ((((x3_1 ++ (⟨#[32]⟩:ByteArray)) ++ t197) ++ (⟨#[58]⟩:ByteArray)) ++ t199).size+1)=False:=eq_false (Nat.not_lt.2 c14)
            try (have c14b3:=Nat.not_lt.2 c14;simp only [ByteArray.size_append,one_size] at c14b3;replace c14b3:=eq_false c14b3)
            replace H:=Option.bind_eq_some_iff.mp H
            obtain ⟨t201,A150,H⟩:=H
            try dsimp only at H
            have A15:=Aside0.mk A150
            clear A150
            by_cases c16:(((((x3_1 ++ (⟨#[32]⟩:ByteArray)) ++ t197) ++ (⟨#[58]⟩:ByteArray)) ++ t199) ++ (⟨#[58]⟩:ByteArray)).size+t201.size≤9223372036854775807
            ·rw [if_pos c16] at H
             have c16b0:=eq_true c16
             have c16b1:decide ((((((x3_1 ++ (⟨#[32]⟩:ByteArray)) ++ t197) ++ (⟨#[58]⟩:ByteArray)) ++ t199) ++ (⟨#[58]⟩:ByteArray)).size+t201.size≤9223372036854775807)=true:=decide_eq_true c16
             try have c16b2:(9223372036854775807 < (((((x3_1 ++ (⟨#[32]⟩:ByteArray)) ++ t197) ++ (⟨#[58]⟩:ByteArray)) ++ t199) ++ (⟨#[58]⟩:ByteArray)).size+t201.size)=False:=eq_false (Nat.not_lt.2 c16)
             try (have c16b3:=Nat.not_lt.2 c16;simp only [ByteArray.size_append,one_size] at c16b3;replace c16b3:=eq_false c16b3)
             have H':=Aside0.mk H
             clear H
             try go_wp2
             have n0_:=Aside0.mk (below_drew1 HB.out)
             clear HB
             have HB:=n0_
             clear n0_
             have p196:0≤(x4_1:Int):=of_decide_eq_true (by first|(with_reducible assumption)|assumption)
             have q196:x4_1 < (l0.length:Int):=of_decide_eq_true (by first|(with_reducible assumption)|assumption)
             obtain ⟨ad196,e196,hx196_0,hx196_1,hx196_2⟩:=at_T53 HR0.out x4_1 p196 q196
             have hw196_2:=hx196_2
             have hw196_1:=hx196_1
             have hw196_0:=hx196_0
             cases e196
             replace hx196_0:=(HB.out.cell (World.block_lt_of_cell? w _ hx196_0)).trans hx196_0
             replace hx196_1:=(HB.out.cell (World.block_lt_of_cell? w _ hx196_1)).trans hx196_1
             replace hx196_2:=(HB.out.cell (World.block_lt_of_cell? w _ hx196_2)).trans hx196_2
             replace p196:=eq_true p196
             replace q196:=eq_true q196
             have p198:0≤(x4_1:Int):=of_decide_eq_true (by first|(with_reducible assumption)|assumption)
             have q198:x4_1 < (l0.length:Int):=of_decide_eq_true (by first|(with_reducible assumption)|assumption)
             obtain ⟨ad198,e198,hx198_0,hx198_1,hx198_2⟩:=at_T53 HR0.out x4_1 p198 q198
             have hw198_2:=hx198_2
             have hw198_1:=hx198_1
             have hw198_0:=hx198_0
             obtain rfl:ad196=ad198:=(by injection e198)
             replace hx198_0:=(HB.out.cell (World.block_lt_of_cell? w _ hx198_0)).trans hx198_0
             replace hx198_1:=(HB.out.cell (World.block_lt_of_cell? w _ hx198_1)).trans hx198_1
             replace hx198_2:=(HB.out.cell (World.block_lt_of_cell? w _ hx198_2)).trans hx198_2
             replace p198:=eq_true p198
             replace q198:=eq_true q198
             have p200:0≤(x4_1:Int):=of_decide_eq_true (by first|(with_reducible assumption)|assumption)
             have q200:x4_1 < (l0.length:Int):=of_decide_eq_true (by first|(with_reducible assumption)|assumption)
             obtain ⟨ad200,e200,hx200_0,hx200_1,hx200_2⟩:=at_T53 HR0.out x4_1 p200 q200
             have hw200_2:=hx200_2
             have hw200_1:=hx200_1
             have hw200_0:=hx200_0
             obtain rfl:ad196=ad200:=(by injection e200)
             replace hx200_0:=(HB.out.cell (World.block_lt_of_cell? w _ hx200_0)).trans hx200_0
             replace hx200_1:=(HB.out.cell (World.block_lt_of_cell? w _ hx200_1)).trans hx200_1
             replace hx200_2:=(HB.out.cell (World.block_lt_of_cell? w _ hx200_2)).trans hx200_2
             replace p200:=eq_true p200
             replace q200:=eq_true q200
             refine start_ (n:=25) (S:=fun w'=>w'.cell? (ad196.add ((x4_1).toNat * 3))=some (.int .i64 ((rd_T53 l0 x4_1).f0))∧w'.cell? ⟨(ad196.add ((x4_1).toNat * 3)).block,(ad196.add ((x4_1).toNat * 3)).off+1,none⟩=some (.int .i64 ((rd_T53 l0 x4_1).f1))∧w'.cell? ⟨(ad196.add ((x4_1).toNat * 3)).block,(ad196.add ((x4_1).toNat * 3)).off+2,none⟩=some (.int .i64 ((rd_T53 l0 x4_1).f2))∧w'.cell? (ad196.add ((x4_1).toNat * 3))=some (.int .i64 ((rd_T53 l0 x4_1).f0))∧w'.cell? ⟨(ad196.add ((x4_1).toNat * 3)).block,(ad196.add ((x4_1).toNat * 3)).off+1,none⟩=some (.int .i64 ((rd_T53 l0 x4_1).f1))∧w'.cell? ⟨(ad196.add ((x4_1).toNat * 3)).block,(ad196.add ((x4_1).toNat * 3)).off+2,none⟩=some (.int .i64 ((rd_T53 l0 x4_1).f2))∧w'.cell? (ad196.add ((x4_1).toNat * 3))=some (.int .i64 ((rd_T53 l0 x4_1).f0))∧w'.cell? ⟨(ad196.add ((x4_1).toNat * 3)).block,(ad196.add ((x4_1).toNat * 3)).off+1,none⟩=some (.int .i64 ((rd_T53 l0 x4_1).f1))∧w'.cell? ⟨(ad196.add ((x4_1).toNat * 3)).block,(ad196.add ((x4_1).toNat * 3)).off+2,none⟩=some (.int .i64 ((rd_T53 l0 x4_1).f2))) (ds:=[]) (fl 25 0) (by kernel_rfl) rfl rfl ⟨((HB.out.cell (World.block_lt_of_cell? w _ hw196_0)).trans hw196_0),((HB.out.cell (World.block_lt_of_cell? w _ hw196_1)).trans hw196_1),((HB.out.cell (World.block_lt_of_cell? w _ hw196_2)).trans hw196_2),((HB.out.cell (World.block_lt_of_cell? w _ hw198_0)).trans hw198_0),((HB.out.cell (World.block_lt_of_cell? w _ hw198_1)).trans hw198_1),((HB.out.cell (World.block_lt_of_cell? w _ hw198_2)).trans hw198_2),((HB.out.cell (World.block_lt_of_cell? w _ hw200_0)).trans hw200_0),((HB.out.cell (World.block_lt_of_cell? w _ hw200_1)).trans hw200_1),((HB.out.cell (World.block_lt_of_cell? w _ hw200_2)).trans hw200_2)⟩ (fun hHeld=>?_);refine with_tabW spec_DevsText.tab9 spec_DevsText.bits9 (fun HT_ HW_=>?_)
             generalize wr.drew=w17 at HB hx196_0 hx196_1 hx196_2 hx198_0 hx198_1 hx198_2 hx200_0 hx200_1 hx200_2 hHeld ⊢
             refine pt 0 19 (fl 25 1) HT_ ?_
             refine pt 1 20 (fl 25 3) HT_ ?_
             refine pt 2 21 (fl 25 7) HT_ ?_
             refine pt 3 22 (fl 25 15) HT_ ?_
             refine pt 4 23 (fl 25 31) HT_ ?_
             refine pt 9 28 (fl 25 543) HT_ ?_
             refine pt 10 29 (fl 25 1567) HT_ ?_
             refine pt 11 30 (fl 25 3615) HT_ ?_
             refine pt 12 31 (fl 25 7711) HT_ ?_
             refine pt 17 36 (fl 25 138783) HT_ ?_
             refine pt 18 37 (fl 25 400927) HT_ ?_
             refine pt 19 38 (fl 25 925215) HT_ ?_
             refine pt 20 39 (fl 25 1973791) HT_ ?_
             refine tt 5 24 (fl 25 1973823) HT_ HW_ hHeld ?_
             refine tt 13 32 (fl 25 1982015) HT_ HW_ hHeld ?_
             refine tt 21 40 (fl 25 4079167) HT_ HW_ hHeld ?_
             refine ot 6 (some 25) (fl 25 4079231) HT_ (fun K hK=>?_)
             refine goes_ Tryd.func41 (by kernel_rfl) rfl #[.int .i64 ((rd_T53 l0 x4_1).f0)] (by rfl) rfl rfl (by (try simp only [List.map_toArray,List.map_cons,List.map_nil]);first|done|rfl|(simp only [List.length_drop,List.length_take];rfl)) ?_
             with_reducible refine (spec_l2Text.calls k1 ((rd_T53 l0 x4_1).f0) t197 _ A9.out).mono ?_
             rintro e w18 ⟨rfl,hb⟩
             refine ⟨_,rfl,?_⟩
             have n0_:=bs hb
             clear HB
             have HB:=n0_
             clear n0_
             (try clear hb)
             (try clear hb2)
             (try clear hk)
             (try clear hi)
             refine hK.out _ _ ⟨((HB.out.cell (World.block_lt_of_cell? w _ hw196_0)).trans hw196_0),((HB.out.cell (World.block_lt_of_cell? w _ hw196_1)).trans hw196_1),((HB.out.cell (World.block_lt_of_cell? w _ hw196_2)).trans hw196_2),((HB.out.cell (World.block_lt_of_cell? w _ hw198_0)).trans hw198_0),((HB.out.cell (World.block_lt_of_cell? w _ hw198_1)).trans hw198_1),((HB.out.cell (World.block_lt_of_cell? w _ hw198_2)).trans hw198_2),((HB.out.cell (World.block_lt_of_cell? w _ hw200_0)).trans hw200_0),((HB.out.cell (World.block_lt_of_cell? w _ hw200_1)).trans hw200_1),((HB.out.cell (World.block_lt_of_cell? w _ hw200_2)).trans hw200_2)⟩ (fun hHeld=>?_)
             clear hK K
             refine no 25 ?_
             refine pt 7 26 (fl 25 4079359) HT_ ?_
             refine pt 8 27 (fl 25 4079615) HT_ ?_
             refine ot 14 (some 33) (fl 25 4095999) HT_ (fun K hK=>?_)
             refine goes_ Tryd.func41 (by kernel_rfl) rfl #[.int .i64 ((rd_T53 l0 x4_1).f1)] (by rfl) rfl rfl (by (try simp only [List.map_toArray,List.map_cons,List.map_nil]);first|done|rfl|(simp only [List.length_drop,List.length_take];rfl)) ?_
             with_reducible refine (spec_l2Text.calls k1 ((rd_T53 l0 x4_1).f1) t199 _ A12.out).mono ?_
             rintro e w19 ⟨rfl,hb⟩
             refine ⟨_,rfl,?_⟩
             have n0_:=bs hb
             clear HB
             have HB:=n0_
             clear n0_
             (try clear hb)
             (try clear hb2)
             (try clear hk)
             (try clear hi)
             refine hK.out _ _ ⟨((HB.out.cell (World.block_lt_of_cell? w _ hw196_0)).trans hw196_0),((HB.out.cell (World.block_lt_of_cell? w _ hw196_1)).trans hw196_1),((HB.out.cell (World.block_lt_of_cell? w _ hw196_2)).trans hw196_2),((HB.out.cell (World.block_lt_of_cell? w _ hw198_0)).trans hw198_0),((HB.out.cell (World.block_lt_of_cell? w _ hw198_1)).trans hw198_1),((HB.out.cell (World.block_lt_of_cell? w _ hw198_2)).trans hw198_2),((HB.out.cell (World.block_lt_of_cell? w _ hw200_0)).trans hw200_0),((HB.out.cell (World.block_lt_of_cell? w _ hw200_1)).trans hw200_1),((HB.out.cell (World.block_lt_of_cell? w _ hw200_2)).trans hw200_2)⟩ (fun hHeld=>?_)
             clear hK K
             refine no 33 ?_
             refine pt 15 34 (fl 25 4128767) HT_ ?_
             refine pt 16 35 (fl 25 4194303) HT_ ?_
             refine ot 22 (some 41) (fl 25 8388607) HT_ (fun K hK=>?_)
             refine goes_ Tryd.func41 (by kernel_rfl) rfl #[.int .i64 ((rd_T53 l0 x4_1).f2)] (by rfl) rfl rfl (by (try simp only [List.map_toArray,List.map_cons,List.map_nil]);first|done|rfl|(simp only [List.length_drop,List.length_take];rfl)) ?_
             with_reducible refine (spec_l2Text.calls k1 ((rd_T53 l0 x4_1).f2) t201 _ A15.out).mono ?_
             rintro e w20 ⟨rfl,hb⟩
             refine ⟨_,rfl,?_⟩
             have n0_:=bs hb
             clear HB
             have HB:=n0_
             clear n0_
             (try clear hb)
             (try clear hb2)
             (try clear hk)
             (try clear hi)
             refine hK.out _ _ ⟨((HB.out.cell (World.block_lt_of_cell? w _ hw196_0)).trans hw196_0),((HB.out.cell (World.block_lt_of_cell? w _ hw196_1)).trans hw196_1),((HB.out.cell (World.block_lt_of_cell? w _ hw196_2)).trans hw196_2),((HB.out.cell (World.block_lt_of_cell? w _ hw198_0)).trans hw198_0),((HB.out.cell (World.block_lt_of_cell? w _ hw198_1)).trans hw198_1),((HB.out.cell (World.block_lt_of_cell? w _ hw198_2)).trans hw198_2),((HB.out.cell (World.block_lt_of_cell? w _ hw200_0)).trans hw200_0),((HB.out.cell (World.block_lt_of_cell? w _ hw200_1)).trans hw200_1),((HB.out.cell (World.block_lt_of_cell? w _ hw200_2)).trans hw200_2)⟩ (fun hHeld=>?_)
             clear hK K
             refine no 41 ?_
             refine pt 23 42 (fl 25 16777215) HT_ ?_
             refine pt 24 3 (fl 25 33554431) HT_ ?_
             refine done_ (done_of HT_.out (by kernel_rfl)) ?_
             try go_wp2
             go_roundg k1
             case measure=>have:=HK1.out;omega
             case rel=>exact ⟨((((((x3_1 ++ (⟨#[32]⟩:ByteArray)) ++ t197) ++ (⟨#[58]⟩:ByteArray)) ++ t199) ++ (⟨#[58]⟩:ByteArray)) ++ t201),(wrap64 (x4_1+1)),rd_,rd_,H',⟨by have:=HK1.out;omega⟩,⟨be⟩⟩
            ·rw [if_neg c16] at H
             exact absurd H (by simp)
           ·rw [if_neg c14] at H
            exact absurd H (by simp)
          ·rw [if_neg c13] at H
           exact absurd H (by simp)
         ·rw [if_neg c11] at H
          exact absurd H (by simp)
        ·rw [if_neg c10] at H
         exact absurd H (by simp)
       ·rw [if_neg c8] at H
        exact absurd H (by simp)
      ·rw [if_neg c7] at H
       exact absurd H (by simp)
     ·rw [if_neg c6] at H
      have c6b0:decide (0 < x4_1)=false:=decide_eq_false c6
      clear c6
      by_cases c21:0≤x4_1
      ·rw [if_pos c21] at H
       have c21b0:decide (0≤x4_1)=true:=decide_eq_true c21
       clear c21
       replace H:=Option.bind_eq_some_iff.mp H
       obtain ⟨t203,A220,H⟩:=H
       try dsimp only at H
       have A22:=Aside0.mk A220
       clear A220
       by_cases c23:x3_1.size+t203.size≤9223372036854775807
       ·rw [if_pos c23] at H
        have c23b0:=eq_true c23
        have c23b1:decide (x3_1.size+t203.size≤9223372036854775807)=true:=decide_eq_true c23
        try have c23b2:(9223372036854775807 < x3_1.size+t203.size)=False:=eq_false (Nat.not_lt.2 c23)
        by_cases c24:(x3_1 ++ t203).size+1≤9223372036854775807
        ·rw [if_pos c24] at H
         have c24b0:=eq_true c24
         have c24b1:decide ((x3_1 ++ t203).size+1≤9223372036854775807)=true:=decide_eq_true c24
         try have c24b2:(9223372036854775807 < (x3_1 ++ t203).size+1)=False:=eq_false (Nat.not_lt.2 c24)
         try (have c24b3:=Nat.not_lt.2 c24;simp only [ByteArray.size_append,one_size] at c24b3;replace c24b3:=eq_false c24b3)
         replace H:=Option.bind_eq_some_iff.mp H
         obtain ⟨t205,A250,H⟩:=H
         try dsimp only at H
         have A25:=Aside0.mk A250
         clear A250
         by_cases c26:((x3_1 ++ t203) ++ (⟨#[58]⟩:ByteArray)).size+t205.size≤9223372036854775807
         ·rw [if_pos c26] at H
          have c26b0:=eq_true c26
          have c26b1:decide (((x3_1 ++ t203) ++ (⟨#[58]⟩:ByteArray)).size+t205.size≤9223372036854775807)=true:=decide_eq_true c26
          try have c26b2:(9223372036854775807 < ((x3_1 ++ t203) ++ (⟨#[58]⟩:ByteArray)).size+t205.size)=False:=eq_false (Nat.not_lt.2 c26)
          try (have c26b3:=Nat.not_lt.2 c26;simp only [ByteArray.size_append,one_size] at c26b3;replace c26b3:=eq_false c26b3)
          by_cases c27:(((x3_1 ++ t203) ++ (⟨#[58]⟩:ByteArray)) ++ t205).size+1≤9223372036854775807
          ·rw [if_pos c27] at H
           have c27b0:=eq_true c27
           have c27b1:decide ((((x3_1 ++ t203) ++ (⟨#[58]⟩:ByteArray)) ++ t205).size+1≤9223372036854775807)=true:=decide_eq_true c27
           try have c27b2:(9223372036854775807 < (((x3_1 ++ t203) ++ (⟨#[58]⟩:ByteArray)) ++ t205).size+1)=False:=eq_false (Nat.not_lt.2 c27)
           try (have c27b3:=Nat.not_lt.2 c27;simp only [ByteArray.size_append,one_size] at c27b3;replace c27b3:=eq_false c27b3)
           replace H:=Option.bind_eq_some_iff.mp H
           obtain ⟨t207,A280,H⟩:=H
           try dsimp only at H
           have A28:=Aside0.mk A280
           clear A280
           by_cases c29:((((x3_1 ++ t203) ++ (⟨#[58]⟩:ByteArray)) ++ t205) ++ (⟨#[58]⟩:ByteArray)).size+t207.size≤9223372036854775807
           ·rw [if_pos c29] at H
            have c29b0:=eq_true c29
            have c29b1:decide (((((x3_1 ++ t203) ++ (⟨#[58]⟩:ByteArray)) ++ t205) ++ (⟨#[58]⟩:ByteArray)).size+t207.size≤9223372036854775807)=true:=decide_eq_true c29
            try have c29b2:(9223372036854775807 < ((((x3_1 ++ t203) ++ (⟨#[58]⟩:ByteArray)) ++ t205) ++ (⟨#[58]⟩:ByteArray)).size+t207.size)=False:=eq_false (Nat.not_lt.2 c29)
            try (have c29b3:=Nat.not_lt.2 c29;simp only [ByteArray.size_append,one_size] at c29b3;replace c29b3:=eq_false c29b3)
            have H':=Aside0.mk H
            clear H
            try go_wp2
            have n0_:=Aside0.mk (below_drew1 HB.out)
            clear HB
            have HB:=n0_
            clear n0_
            have p202:0≤(x4_1:Int):=of_decide_eq_true (by first|(with_reducible assumption)|assumption)
            have q202:x4_1 < (l0.length:Int):=of_decide_eq_true (by first|(with_reducible assumption)|assumption)
            obtain ⟨ad202,e202,hx202_0,hx202_1,hx202_2⟩:=at_T53 HR0.out x4_1 p202 q202
            have hw202_2:=hx202_2
            have hw202_1:=hx202_1
            have hw202_0:=hx202_0
            cases e202
            replace hx202_0:=(HB.out.cell (World.block_lt_of_cell? w _ hx202_0)).trans hx202_0
            replace hx202_1:=(HB.out.cell (World.block_lt_of_cell? w _ hx202_1)).trans hx202_1
            replace hx202_2:=(HB.out.cell (World.block_lt_of_cell? w _ hx202_2)).trans hx202_2
            replace p202:=eq_true p202
            replace q202:=eq_true q202
            have p204:0≤(x4_1:Int):=of_decide_eq_true (by first|(with_reducible assumption)|assumption)
            have q204:x4_1 < (l0.length:Int):=of_decide_eq_true (by first|(with_reducible assumption)|assumption)
            obtain ⟨ad204,e204,hx204_0,hx204_1,hx204_2⟩:=at_T53 HR0.out x4_1 p204 q204
            have hw204_2:=hx204_2
            have hw204_1:=hx204_1
            have hw204_0:=hx204_0
            obtain rfl:ad202=ad204:=(by injection e204)
            replace hx204_0:=(HB.out.cell (World.block_lt_of_cell? w _ hx204_0)).trans hx204_0
            replace hx204_1:=(HB.out.cell (World.block_lt_of_cell? w _ hx204_1)).trans hx204_1
            replace hx204_2:=(HB.out.cell (World.block_lt_of_cell? w _ hx204_2)).trans hx204_2
            replace p204:=eq_true p204
            replace q204:=eq_true q204
            have p206:0≤(x4_1:Int):=of_decide_eq_true (by first|(with_reducible assumption)|assumption)
            have q206:x4_1 < (l0.length:Int):=of_decide_eq_true (by first|(with_reducible assumption)|assumption)
            obtain ⟨ad206,e206,hx206_0,hx206_1,hx206_2⟩:=at_T53 HR0.out x4_1 p206 q206
            have hw206_2:=hx206_2
            have hw206_1:=hx206_1
            have hw206_0:=hx206_0
            obtain rfl:ad202=ad206:=(by injection e206)
            replace hx206_0:=(HB.out.cell (World.block_lt_of_cell? w _ hx206_0)).trans hx206_0
            replace hx206_1:=(HB.out.cell (World.block_lt_of_cell? w _ hx206_1)).trans hx206_1
            replace hx206_2:=(HB.out.cell (World.block_lt_of_cell? w _ hx206_2)).trans hx206_2
            replace p206:=eq_true p206
            replace q206:=eq_true q206
            refine start_ (n:=25) (S:=fun w'=>w'.cell? (ad202.add ((x4_1).toNat * 3))=some (.int .i64 ((rd_T53 l0 x4_1).f0))∧w'.cell? ⟨(ad202.add ((x4_1).toNat * 3)).block,(ad202.add ((x4_1).toNat * 3)).off+1,none⟩=some (.int .i64 ((rd_T53 l0 x4_1).f1))∧w'.cell? ⟨(ad202.add ((x4_1).toNat * 3)).block,(ad202.add ((x4_1).toNat * 3)).off+2,none⟩=some (.int .i64 ((rd_T53 l0 x4_1).f2))∧w'.cell? (ad202.add ((x4_1).toNat * 3))=some (.int .i64 ((rd_T53 l0 x4_1).f0))∧w'.cell? ⟨(ad202.add ((x4_1).toNat * 3)).block,(ad202.add ((x4_1).toNat * 3)).off+1,none⟩=some (.int .i64 ((rd_T53 l0 x4_1).f1))∧w'.cell? ⟨(ad202.add ((x4_1).toNat * 3)).block,(ad202.add ((x4_1).toNat * 3)).off+2,none⟩=some (.int .i64 ((rd_T53 l0 x4_1).f2))∧w'.cell? (ad202.add ((x4_1).toNat * 3))=some (.int .i64 ((rd_T53 l0 x4_1).f0))∧w'.cell? ⟨(ad202.add ((x4_1).toNat * 3)).block,(ad202.add ((x4_1).toNat * 3)).off+1,none⟩=some (.int .i64 ((rd_T53 l0 x4_1).f1))∧w'.cell? ⟨(ad202.add ((x4_1).toNat * 3)).block,(ad202.add ((x4_1).toNat * 3)).off+2,none⟩=some (.int .i64 ((rd_T53 l0 x4_1).f2))) (ds:=[]) (fl 25 0) (by kernel_rfl) rfl rfl ⟨((HB.out.cell (World.block_lt_of_cell? w _ hw202_0)).trans hw202_0),((HB.out.cell (World.block_lt_of_cell? w _ hw202_1)).trans hw202_1),((HB.out.cell (World.block_lt_of_cell? w _ hw202_2)).trans hw202_2),((HB.out.cell (World.block_lt_of_cell? w _ hw204_0)).trans hw204_0),((HB.out.cell (World.block_lt_of_cell? w _ hw204_1)).trans hw204_1),((HB.out.cell (World.block_lt_of_cell? w _ hw204_2)).trans hw204_2),((HB.out.cell (World.block_lt_of_cell? w _ hw206_0)).trans hw206_0),((HB.out.cell (World.block_lt_of_cell? w _ hw206_1)).trans hw206_1),((HB.out.cell (World.block_lt_of_cell? w _ hw206_2)).trans hw206_2)⟩ (fun hHeld=>?_);refine with_tabW spec_DevsText.tab9 spec_DevsText.bits9 (fun HT_ HW_=>?_)
            generalize wr.drew=w30 at HB hx202_0 hx202_1 hx202_2 hx204_0 hx204_1 hx204_2 hx206_0 hx206_1 hx206_2 hHeld ⊢
            refine pt 0 19 (fl 25 1) HT_ ?_
            refine pt 1 20 (fl 25 3) HT_ ?_
            refine pt 2 21 (fl 25 7) HT_ ?_
            refine pt 3 22 (fl 25 15) HT_ ?_
            refine pt 4 23 (fl 25 31) HT_ ?_
            refine pt 9 28 (fl 25 543) HT_ ?_
            refine pt 10 29 (fl 25 1567) HT_ ?_
            refine pt 11 30 (fl 25 3615) HT_ ?_
            refine pt 12 31 (fl 25 7711) HT_ ?_
            refine pt 17 36 (fl 25 138783) HT_ ?_
            refine pt 18 37 (fl 25 400927) HT_ ?_
            refine pt 19 38 (fl 25 925215) HT_ ?_
            refine pt 20 39 (fl 25 1973791) HT_ ?_
            refine tt 5 24 (fl 25 1973823) HT_ HW_ hHeld ?_
            refine tt 13 32 (fl 25 1982015) HT_ HW_ hHeld ?_
            refine tt 21 40 (fl 25 4079167) HT_ HW_ hHeld ?_
            refine ot 6 (some 25) (fl 25 4079231) HT_ (fun K hK=>?_)
            refine goes_ Tryd.func41 (by kernel_rfl) rfl #[.int .i64 ((rd_T53 l0 x4_1).f0)] (by rfl) rfl rfl (by (try simp only [List.map_toArray,List.map_cons,List.map_nil]);first|done|rfl|(simp only [List.length_drop,List.length_take];rfl)) ?_
            with_reducible refine (spec_l2Text.calls k1 ((rd_T53 l0 x4_1).f0) t203 _ A22.out).mono ?_
            rintro e w31 ⟨rfl,hb⟩
            refine ⟨_,rfl,?_⟩
            have n0_:=bs hb
            clear HB
            have HB:=n0_
            clear n0_
            (try clear hb)
            (try clear hb2)
            (try clear hk)
            (try clear hi)
            refine hK.out _ _ ⟨((HB.out.cell (World.block_lt_of_cell? w _ hw202_0)).trans hw202_0),((HB.out.cell (World.block_lt_of_cell? w _ hw202_1)).trans hw202_1),((HB.out.cell (World.block_lt_of_cell? w _ hw202_2)).trans hw202_2),((HB.out.cell (World.block_lt_of_cell? w _ hw204_0)).trans hw204_0),((HB.out.cell (World.block_lt_of_cell? w _ hw204_1)).trans hw204_1),((HB.out.cell (World.block_lt_of_cell? w _ hw204_2)).trans hw204_2),((HB.out.cell (World.block_lt_of_cell? w _ hw206_0)).trans hw206_0),((HB.out.cell (World.block_lt_of_cell? w _ hw206_1)).trans hw206_1),((HB.out.cell (World.block_lt_of_cell? w _ hw206_2)).trans hw206_2)⟩ (fun hHeld=>?_)
            clear hK K
            refine no 25 ?_
            refine pt 7 26 (fl 25 4079359) HT_ ?_
            refine pt 8 27 (fl 25 4079615) HT_ ?_
            refine ot 14 (some 33) (fl 25 4095999) HT_ (fun K hK=>?_)
            refine goes_ Tryd.func41 (by kernel_rfl) rfl #[.int .i64 ((rd_T53 l0 x4_1).f1)] (by rfl) rfl rfl (by (try simp only [List.map_toArray,List.map_cons,List.map_nil]);first|done|rfl|(simp only [List.length_drop,List.length_take];rfl)) ?_
            with_reducible refine (spec_l2Text.calls k1 ((rd_T53 l0 x4_1).f1) t205 _ A25.out).mono ?_
            rintro e w32 ⟨rfl,hb⟩
            refine ⟨_,rfl,?_⟩
            have n0_:=bs hb
            clear HB
            have HB:=n0_
            clear n0_
            (try clear hb)
            (try clear hb2)
            (try clear hk)
            (try clear hi)
            refine hK.out _ _ ⟨((HB.out.cell (World.block_lt_of_cell? w _ hw202_0)).trans hw202_0),((HB.out.cell (World.block_lt_of_cell? w _ hw202_1)).trans hw202_1),((HB.out.cell (World.block_lt_of_cell? w _ hw202_2)).trans hw202_2),((HB.out.cell (World.block_lt_of_cell? w _ hw204_0)).trans hw204_0),((HB.out.cell (World.block_lt_of_cell? w _ hw204_1)).trans hw204_1),((HB.out.cell (World.block_lt_of_cell? w _ hw204_2)).trans hw204_2),((HB.out.cell (World.block_lt_of_cell? w _ hw206_0)).trans hw206_0),((HB.out.cell (World.block_lt_of_cell? w _ hw206_1)).trans hw206_1),((HB.out.cell (World.block_lt_of_cell? w _ hw206_2)).trans hw206_2)⟩ (fun hHeld=>?_)
            clear hK K
            refine no 33 ?_
            refine pt 15 34 (fl 25 4128767) HT_ ?_
            refine pt 16 35 (fl 25 4194303) HT_ ?_
            refine ot 22 (some 41) (fl 25 8388607) HT_ (fun K hK=>?_)
            refine goes_ Tryd.func41 (by kernel_rfl) rfl #[.int .i64 ((rd_T53 l0 x4_1).f2)] (by rfl) rfl rfl (by (try simp only [List.map_toArray,List.map_cons,List.map_nil]);first|done|rfl|(simp only [List.length_drop,List.length_take];rfl)) ?_
            with_reducible refine (spec_l2Text.calls k1 ((rd_T53 l0 x4_1).f2) t207 _ A28.out).mono ?_
            rintro e w33 ⟨rfl,hb⟩
            refine ⟨_,rfl,?_⟩
            have n0_:=bs hb
            clear HB
            have HB:=n0_
            clear n0_
            (try clear hb)
            (try clear hb2)
            (try clear hk)
            (try clear hi)
            refine hK.out _ _ ⟨((HB.out.cell (World.block_lt_of_cell? w _ hw202_0)).trans hw202_0),((HB.out.cell (World.block_lt_of_cell? w _ hw202_1)).trans hw202_1),((HB.out.cell (World.block_lt_of_cell? w _ hw202_2)).trans hw202_2),((HB.out.cell (World.block_lt_of_cell? w _ hw204_0)).trans hw204_0),((HB.out.cell (World.block_lt_of_cell? w _ hw204_1)).trans hw204_1),((HB.out.cell (World.block_lt_of_cell? w _ hw204_2)).trans hw204_2),((HB.out.cell (World.block_lt_of_cell? w _ hw206_0)).trans hw206_0),((HB.out.cell (World.block_lt_of_cell? w _ hw206_1)).trans hw206_1),((HB.out.cell (World.block_lt_of_cell? w _ hw206_2)).trans hw206_2)⟩ (fun hHeld=>?_)
            clear hK K
            refine no 41 ?_
            refine pt 23 42 (fl 25 16777215) HT_ ?_
            refine pt 24 3 (fl 25 33554431) HT_ ?_
            refine done_ (done_of HT_.out (by kernel_rfl)) ?_
            try go_wp2
            go_roundg k1
            case measure=>have:=HK1.out;omega
            case rel=>exact ⟨(((((x3_1 ++ t203) ++ (⟨#[58]⟩:ByteArray)) ++ t205) ++ (⟨#[58]⟩:ByteArray)) ++ t207),(wrap64 (x4_1+1)),rd_,rd_,H',⟨by have:=HK1.out;omega⟩,⟨be⟩⟩
           ·rw [if_neg c29] at H
            exact absurd H (by simp)
          ·rw [if_neg c27] at H
           exact absurd H (by simp)
         ·rw [if_neg c26] at H
          exact absurd H (by simp)
        ·rw [if_neg c24] at H
         exact absurd H (by simp)
       ·rw [if_neg c23] at H
        exact absurd H (by simp)
      ·rw [if_neg c21] at H
       exact absurd H (by simp)
    ·rw [if_neg c5] at H
     have c5b0:decide (x4_1 < (l0.length:Int))=false:=decide_eq_false c5
     clear c5
     obtain rfl:=Option.some.inj H
     go_wp2
     go_ret
     exact ⟨rz,be⟩
 ·replace c3:=Bool.eq_false_iff.mpr c3
  subst c3
  have H1:(some (⟨#[]⟩:ByteArray))=some r:=by rw [if_neg (show ¬ (false=true) by decide)] at H;exact H
  clear H
  have H:=H1
  clear H1
  obtain rfl:=Option.some.inj H
  go_enter Tryd.func15,Tryd.ntmps15
  go_wp2_with (first|((with_reducible refine gate_callee (f:=36) rfl ?_);refine goesL_ (some 6) rfl rfl Tryd.func36 (by kernel_rfl) rfl #[.slice A0 l0.length c0] rfl (by (try simp only [List.map_toArray,List.map_cons,List.map_nil]);first|done|rfl|(simp only [List.length_drop,List.length_take];rfl)) ?_;(with_reducible refine (spec_DevsOk.calls k _ _ l0 false _ ?side1 ?side2 A2.out).mono ?_);(case side1=>exact sC HR0);(case side2=>exact HC0.out);rintro e w34 ⟨rfl,hb⟩;refine ⟨_,rfl,?_⟩;have n0_:=bs hb;clear HB;have HB:=n0_;clear n0_;(try clear hb);(try clear hb2);(try clear hk);(try clear hi)))
  go_ret
  exact ⟨rz,be⟩
def IsS87 (w0 W:World) (g:Nat) (f0:List Int) (f1:Int) (f2:Int):Prop:=∃ A0 c0,W.heap[g]?=some (.cells #[.slice A0 f0.length c0,.int .i64 f1,.int .i64 f2] 87 (0,0))∧w0.heap.size≤g∧Kd.C (Kd.int .u8) w0 A0 f0.length f0
theorem IsS87.grown {w0 W:World} {g:Nat} {f0:List Int} {f1:Int} {f2:Int} {W1:World} {row:Option Nat} (h:IsS87 w0 W g f0 f1 f2) (hw:W.grownBy W1 row) (hne:some g ≠ row):IsS87 w0 W1 g f0 f1 f2:=by
 obtain ⟨A0,c0,hb,hg,hr0⟩:=h
 exact ⟨A0,c0,blk_grown hb hw hne,hg,hr0⟩
theorem IsS87.kept {w0 W:World} {g:Nat} {f0:List Int} {f1:Int} {f2:Int} {W1:World} {S:Nat→Prop} (h:IsS87 w0 W g f0 f1 f2) (hk:Kept W W1 S) (hne : ¬ S g):IsS87 w0 W1 g f0 f1 f2:=by
 obtain ⟨A0,c0,hb,hg,hr0⟩:=h
 exact ⟨A0,c0,blk_kept hb hk hne,hg,hr0⟩
theorem IsS87.below {w0 W:World} {g:Nat} {f0:List Int} {f1:Int} {f2:Int} {W1:World} (h:IsS87 w0 W g f0 f1 f2) (hw:Below W.heap.size W W1):IsS87 w0 W1 g f0 f1 f2:=h.grown (grown_of_below hw none) (by simp)
theorem IsS87.alloc {w0 W:World} {g:Nat} {f0:List Int} {f1:Int} {f2:Int} (h:IsS87 w0 W g f0 f1 f2) (o:Obj):IsS87 w0 (W.alloc o) g f0 f1 f2:=h.below (below_alloc (Below.refl _ _) o)
theorem IsS87.drewN {w0 W:World} {g:Nat} {f0:List Int} {f1:Int} {f2:Int} (h:IsS87 w0 W g f0 f1 f2) (m:Nat):IsS87 w0 (W.drewN m) g f0 f1 f2:=h
theorem IsS87.drew {w0 W:World} {g:Nat} {f0:List Int} {f1:Int} {f2:Int} (h:IsS87 w0 W g f0 f1 f2):IsS87 w0 W.drew g f0 f1 f2:=h
theorem IsS87.apart {w0 W:World} {g:Nat} {f0:List Int} {f1:Int} {f2:Int} {α:Type} {d:Kd α} {e:Nat} {base:Nat} {ok:Nat→Prop} {v:Value} {xs:List α} (h:IsS87 w0 W g f0 f1 f2) (ho:d.R e W base ok v xs) (ht : ∀ q,q∈e :: d.E→q ≠ 87):d.R e W base (fun k=>ok k∧k ≠ g) v xs:=by
 obtain ⟨A0,c0,hb,hg,hr0⟩:=h
 exact Kd.R_types ho hb ht
theorem IsS87.own_ne {w0 W:World} {g:Nat} {f0:List Int} {f1:Int} {f2:Int} {α:Type} {d:Kd α} {e:Nat} {base:Nat} {ok:Nat→Prop} {v:Value} {xs:List α} (h:IsS87 w0 W g f0 f1 f2) (ho:d.R e W base ok v xs) (ht:e ≠ 87):some g ≠ v.ownBlock:=by
 obtain ⟨A0,c0,hb,hg,hr0⟩:=h
 exact Kd.R_ne ho hb ht
theorem IsS87.ge {w0 W:World} {g:Nat} {f0:List Int} {f1:Int} {f2:Int} (h:IsS87 w0 W g f0 f1 f2):w0.heap.size≤g:=by
 obtain ⟨A0,c0,hb,hg,hr0⟩:=h
 exact hg
theorem cellS87_0 {W:World} {g:Nat} {A0:Option Addr} {c0:Nat} {f0:List Int} {f1:Int} {f2:Int} (h:W.heap[g]?=some (.cells #[.slice A0 f0.length c0,.int .i64 f1,.int .i64 f2] 87 (0,0))):W.cell? ⟨g,0,none⟩=some (.slice A0 f0.length c0):=(blk_cell h 0).trans rfl
theorem cellS87_1 {W:World} {g:Nat} {A0:Option Addr} {c0:Nat} {f0:List Int} {f1:Int} {f2:Int} (h:W.heap[g]?=some (.cells #[.slice A0 f0.length c0,.int .i64 f1,.int .i64 f2] 87 (0,0))):W.cell? ⟨g,1,none⟩=some (.int .i64 f1):=(blk_cell h 1).trans rfl
theorem IsS87.set_1 {w0 W:World} {g:Nat} {f0:List Int} {f1:Int} {f2:Int} (h:IsS87 w0 W g f0 f1 f2) (x:Int):IsS87 w0 (W.setCell ⟨g,1,none⟩ (.int .i64 x)) g f0 x f2:=by
 obtain ⟨A0,c0,hb,hg,hr0⟩:=h
 exact ⟨A0,c0,by simpa using blk_set hb 1 (.int .i64 x),hg,hr0⟩
theorem cellS87_2 {W:World} {g:Nat} {A0:Option Addr} {c0:Nat} {f0:List Int} {f1:Int} {f2:Int} (h:W.heap[g]?=some (.cells #[.slice A0 f0.length c0,.int .i64 f1,.int .i64 f2] 87 (0,0))):W.cell? ⟨g,2,none⟩=some (.int .i64 f2):=(blk_cell h 2).trans rfl
theorem IsS87.set_2 {w0 W:World} {g:Nat} {f0:List Int} {f1:Int} {f2:Int} (h:IsS87 w0 W g f0 f1 f2) (x:Int):IsS87 w0 (W.setCell ⟨g,2,none⟩ (.int .i64 x)) g f0 f1 x:=by
 obtain ⟨A0,c0,hb,hg,hr0⟩:=h
 exact ⟨A0,c0,by simpa using blk_set hb 2 (.int .i64 x),hg,hr0⟩
def spec_l1New.l0:Nat→List Int→Int→Int→Option (List Int × Int × Int)
 | 0,_,_,_=>none
 | k+1,x0,x3,x4=>if x4 < (x0.length:Int) then (if x4 < 4000 then (if 0≤x4 then (spec_l1New.l0 k x0 (Go.bits .and .i64 (wrap64 ((wrap64 ((wrap64 (x3 * 137))+(wrap64 (rd x0 x4))))+11)) 1073741823) (wrap64 (x4+1))) else (none)) else (some (x0,0,x3))) else (some (x0,0,x3))
def spec_l1New.f (k:Nat) (l0:List Int):Option (List Int × Int × Int):=spec_l1New.l0 k l0 (wrap64 (378378+(l0.length:Int))) 0
set_option maxHeartbeats 8000000 in
set_option maxRecDepth 100000 in
theorem spec_l1New.calls (k:Nat) (A0:Option Addr) (c0:Nat) (l0:List Int) (r1:List Int) (r2:Int) (r3:Int) (w0 w:World) (hB:Below w0.heap.size w0 w) (hr0:Kd.C (Kd.int .u8) w0 A0 l0.length l0) (hc0:l0.length≤c0) (h:spec_l1New.f k l0=some (r1,r2,r3)) :
  Calls Tryd.prog 49 #[.slice A0 l0.length c0] w fun e w'=>∃ g_:Nat,e = .returned (.pointer (some ⟨g_,0,none⟩))∧IsS87 w0 w' g_ r1 r2 r3∧Below w0.heap.size w0 w' ∧ Below w.heap.size w w':=by
 have hu87:=Tryd.underlying87
 have HR0:=Aside0.mk hr0
 have HC0:=Aside0.mk hc0
 clear hr0 hc0
 have HBW:=Aside0.mk (Below.refl w.heap.size w)
 have HW0:=Aside0.mk hB.size
 have HB:=Aside0.mk hB
 clear hB
 have H:(spec_l1New.l0 k l0 (wrap64 (378378+(l0.length:Int))) 0)=some (r1,r2,r3):=h
 clear h
 have H':=Aside0.mk H
 clear H
 go_enter Tryd.func49,Tryd.ntmps49
 go_wp2
 go_loopg [3,4] k (fun kq v3 v4 w'=>∃ (x3_1:Int) (x4_1:Int),v3 = .int .i64 x3_1∧v4 = .int .i64 x4_1∧Aside0 (spec_l1New.l0 kq l0 x3_1 x4_1=some (r1,r2,r3))∧Aside0 (kq≤k)∧Aside0 (Below w0.heap.size w0 w')∧Aside0 (Below w.heap.size w w'))
 case atStart=>exact ⟨(wrap64 (378378+(l0.length:Int))),(0),rd_,rd_,H',⟨Nat.le_refl _⟩,⟨be⟩,⟨by repeat (first|(with_reducible first|exact HBW.out|apply below_alloc|apply pw_below_drewN|apply below_drew1)|exact HBW.out)⟩⟩
 case round=>
  clear H'
  obtain ⟨x3_1,x4_1,rfl,rfl,HA,HK1,HB,HBW⟩:=hrel
  cases gk with
  | zero=>exact absurd HA.out (by simp [spec_l1New.l0])
  | succ k1=>
   have H:=HA.out
   clear HA
   simp only [spec_l1New.l0] at H
   by_cases c2:x4_1 < (l0.length:Int)
   ·rw [if_pos c2] at H
    have c2b0:decide (x4_1 < (l0.length:Int))=true:=decide_eq_true c2
    clear c2
    by_cases c3:x4_1 < 4000
    ·rw [if_pos c3] at H
     have c3b0:decide (x4_1 < 4000)=true:=decide_eq_true c3
     clear c3
     by_cases c4:0≤x4_1
     ·rw [if_pos c4] at H
      have c4b0:decide (0≤x4_1)=true:=decide_eq_true c4
      clear c4
      have H':=Aside0.mk H
      clear H
      have p208:0≤(x4_1:Int):=of_decide_eq_true (by first|(with_reducible assumption)|assumption)
      have q208:x4_1 < (l0.length:Int):=of_decide_eq_true (by first|(with_reducible assumption)|assumption)
      obtain ⟨ad208,e208,hx208_0⟩:=Kd.at_int HR0.out x4_1 p208 q208
      cases e208
      replace hx208_0:=pw_cell_below HB.out hx208_0
      replace p208:=eq_true p208
      replace q208:=eq_true q208
      go_wp2
      go_roundg k1
      case measure=>have:=HK1.out;omega
      case rel=>exact ⟨(Go.bits .and .i64 (wrap64 ((wrap64 ((wrap64 (x3_1 * 137))+(wrap64 (rd l0 x4_1))))+11)) 1073741823),(wrap64 (x4_1+1)),rd_,rd_,H',⟨by have:=HK1.out;omega⟩,⟨be⟩,⟨by repeat (first|(with_reducible first|exact HBW.out|apply below_alloc|apply pw_below_drewN|apply below_drew1)|exact HBW.out)⟩⟩
     ·rw [if_neg c4] at H
      exact absurd H (by simp)
    ·rw [if_neg c3] at H
     have c3b0:decide (x4_1 < 4000)=false:=decide_eq_false c3
     clear c3
     simp only [Option.some.injEq,Prod.mk.injEq] at H
     obtain ⟨rfl,rfl,rfl⟩:=H
     go_wp2_with (first|((with_reducible refine gate_dst (N:=31) rfl ?_);refine box_event ?hg (N:=31) ?hd (cs:=#[.slice A0 l0.length c0,.int .i64 0,.int .i64 x3_1]) (t:=87) ?hr ?_;(case hd=>rfl);(case hg=>rfl);(case hr=>first|(go_simp;done)|(go_simp;rfl));intro gb209 hg w5 hbox hb;have n0_:=Aside0.mk (below_step HBW.out hb);have n1_:=bs (w:=w0) hb;have n2_:=Aside0.mk (hbox);have n3_:=Aside0.mk ((by rw [hg];exact (below_size (by repeat (first|(with_reducible first|exact HBW.out|apply below_alloc|apply pw_below_drewN|apply below_drew1)|exact HBW.out))):w.heap.size≤gb209));have n4_:=Aside0.mk ((Nat.le_trans HW0.out (by rw [hg];exact (below_size (by repeat (first|(with_reducible first|exact HBW.out|apply below_alloc|apply pw_below_drewN|apply below_drew1)|exact HBW.out))):w.heap.size≤gb209):w0.heap.size≤gb209));clear HBW;clear HB;have HBW:=n0_;have HB:=n1_;have BK209:=n2_;have GW209:=n3_;have GE209:=n4_;clear n0_ n1_ n2_ n3_ n4_;clear hb hbox hg))
     go_ret
     exact ⟨_,rfl,(show IsS87 w0 _ gb209 l0 0 x3_1 from ⟨_,_,bk BK209,GE209.out,HR0.out⟩),be,by repeat (first|(with_reducible first|exact HBW.out|apply below_alloc|apply pw_below_drewN|apply below_drew1|refine below_set ?_ GW209.out)|exact HBW.out)⟩
   ·rw [if_neg c2] at H
    have c2b0:decide (x4_1 < (l0.length:Int))=false:=decide_eq_false c2
    clear c2
    simp only [Option.some.injEq,Prod.mk.injEq] at H
    obtain ⟨rfl,rfl,rfl⟩:=H
    go_wp2_with (first|((with_reducible refine gate_dst (N:=31) rfl ?_);refine box_event ?hg (N:=31) ?hd (cs:=#[.slice A0 l0.length c0,.int .i64 0,.int .i64 x3_1]) (t:=87) ?hr ?_;(case hd=>rfl);(case hg=>rfl);(case hr=>first|(go_simp;done)|(go_simp;rfl));intro gb210 hg w6 hbox hb;have n0_:=Aside0.mk (below_step HBW.out hb);have n1_:=bs (w:=w0) hb;have n2_:=Aside0.mk (hbox);have n3_:=Aside0.mk ((by rw [hg];exact (below_size (by repeat (first|(with_reducible first|exact HBW.out|apply below_alloc|apply pw_below_drewN|apply below_drew1)|exact HBW.out))):w.heap.size≤gb210));have n4_:=Aside0.mk ((Nat.le_trans HW0.out (by rw [hg];exact (below_size (by repeat (first|(with_reducible first|exact HBW.out|apply below_alloc|apply pw_below_drewN|apply below_drew1)|exact HBW.out))):w.heap.size≤gb210):w0.heap.size≤gb210));clear HBW;clear HB;have HBW:=n0_;have HB:=n1_;have BK210:=n2_;have GW210:=n3_;have GE210:=n4_;clear n0_ n1_ n2_ n3_ n4_;clear hb hbox hg))
    go_ret
    exact ⟨_,rfl,(show IsS87 w0 _ gb210 l0 0 x3_1 from ⟨_,_,bk BK210,GE210.out,HR0.out⟩),be,by repeat (first|(with_reducible first|exact HBW.out|apply below_alloc|apply pw_below_drewN|apply below_drew1|refine below_set ?_ GW210.out)|exact HBW.out)⟩
def spec_l1Byte.f (s0_0:List Int) (s0_1:Int) (s0_2:Int):Option (Int × Int × Int):=if s0_1 < (s0_0.length:Int) then (if 0≤s0_1 then (some (Go.bits .and .i64 (wrap64 ((Go.bits .and .i64 (Go.bits .xor .i64 ((wrap64 ((wrap64 (s0_2 * 6364136223846793005))+1442695040888963407)) / 8589934592) ((wrap64 ((wrap64 (s0_2 * 6364136223846793005))+1442695040888963407)) / 140737488355328)) 255)+(wrap64 (rd s0_0 s0_1)))) 255,wrap64 (s0_1+1),wrap64 ((wrap64 (s0_2 * 6364136223846793005))+1442695040888963407))) else (none)) else (some (Go.bits .and .i64 (Go.bits .xor .i64 ((wrap64 ((wrap64 (s0_2 * 6364136223846793005))+1442695040888963407)) / 8589934592) ((wrap64 ((wrap64 (s0_2 * 6364136223846793005))+1442695040888963407)) / 140737488355328)) 255,s0_1,wrap64 ((wrap64 (s0_2 * 6364136223846793005))+1442695040888963407)))
set_option maxHeartbeats 8000000 in
set_option maxRecDepth 100000 in
theorem spec_l1Byte.calls (g:Nat) (s0_0:List Int) (s0_1:Int) (s0_2:Int) (r1:Int) (r2:Int) (r3:Int) (w0 w:World) (hI:IsS87 w0 w g s0_0 s0_1 s0_2) (hB:Below w0.heap.size w0 w) (h:spec_l1Byte.f s0_0 s0_1 s0_2=some (r1,r2,r3)) :
  Calls Tryd.prog 69 #[.pointer (some ⟨g,0,none⟩)] w fun e w'=>e = .returned (.int .i64 r1)∧IsS87 w0 w' g s0_0 r2 r3∧Below w0.heap.size w0 w' ∧ KeepBut w w' g none:=by
 have HI0:=Aside0.mk hI
 have HK:=Aside0.mk (KeepBut.refl w g none)
 have HL:=Aside0.mk hB.size
 clear hI
 have HW0:=Aside0.mk hB.size
 have HB:=Aside0.mk hB
 clear hB
 have H:(if s0_1 < (s0_0.length:Int) then (if 0≤s0_1 then (some (Go.bits .and .i64 (wrap64 ((Go.bits .and .i64 (Go.bits .xor .i64 ((wrap64 ((wrap64 (s0_2 * 6364136223846793005))+1442695040888963407)) / 8589934592) ((wrap64 ((wrap64 (s0_2 * 6364136223846793005))+1442695040888963407)) / 140737488355328)) 255)+(wrap64 (rd s0_0 s0_1)))) 255,wrap64 (s0_1+1),wrap64 ((wrap64 (s0_2 * 6364136223846793005))+1442695040888963407))) else (none)) else (some (Go.bits .and .i64 (Go.bits .xor .i64 ((wrap64 ((wrap64 (s0_2 * 6364136223846793005))+1442695040888963407)) / 8589934592) ((wrap64 ((wrap64 (s0_2 * 6364136223846793005))+1442695040888963407)) / 140737488355328)) 255,s0_1,wrap64 ((wrap64 (s0_2 * 6364136223846793005))+1442695040888963407))))=some (r1,r2,r3):=h
 clear h
 by_cases c2:s0_1 < (s0_0.length:Int)
 ·rw [if_pos c2] at H
  have c2b0:decide (s0_1 < (s0_0.length:Int))=true:=decide_eq_true c2
  clear c2
  by_cases c3:0≤s0_1
  ·rw [if_pos c3] at H
   have c3b0:decide (0≤s0_1)=true:=decide_eq_true c3
   clear c3
   simp only [Option.some.injEq,Prod.mk.injEq] at H
   obtain ⟨rfl,rfl,rfl⟩:=H
   obtain ⟨ASz4_0,cSz4_0,HGz4,hgz4,HSz4_0⟩:=HI0.out
   have hcz4_0:=cellS87_0 HGz4
   have hcz4_1:=cellS87_1 HGz4
   have hcz4_2:=cellS87_2 HGz4
   have hfz4_1:=blk_frozen HGz4 1
   have hfz4_2:=blk_frozen HGz4 2
   clear HGz4 hgz4
   have p211:0≤(s0_1:Int):=of_decide_eq_true (by first|(with_reducible assumption)|assumption)
   have q211:s0_1 < (s0_0.length:Int):=of_decide_eq_true (by first|(with_reducible assumption)|assumption)
   obtain ⟨ad211,e211,hx211_0⟩:=Kd.at_int HSz4_0 s0_1 p211 q211
   cases e211
   have hn211_0:ad211.block ≠ g:=Nat.ne_of_lt (Nat.lt_of_lt_of_le (by have:=World.block_lt_of_cell? _ _ hx211_0;first|rwa [add_block] at this|exact this) (IsS87.ge HI0.out))
   replace hx211_0:=pw_cell_below HB.out hx211_0
   replace hx211_0:=(cell_far (p:=⟨g,2,none⟩) (by first|(rw [add_block];exact hn211_0)|(show (Addr.add _ _).block ≠ _;rw [add_block];exact hn211_0)|exact hn211_0) (.int .i64 (wrap64 ((wrap64 (s0_2 * 6364136223846793005))+1442695040888963407)))).trans hx211_0
   (try have hy211_0:=fun (n_:Nat)=>(show (((w.drewN n_).setCell ⟨g,2,none⟩ (.int .i64 (wrap64 ((wrap64 (s0_2 * 6364136223846793005))+1442695040888963407))))).cell? _=some _ from hx211_0))
   clear hn211_0
   replace p211:=eq_true p211
   replace q211:=eq_true q211
   go_enter Tryd.func69,Tryd.ntmps69
   go_wp2
   repeat (go_quiet (fail);try go_wp2)
   go_ret
   exact ⟨rz,by repeat (first|(with_reducible first|exact HI0.out|apply IsS87.alloc|apply IsS87.drewN|apply IsS87.drew|apply IsS87.set_1|apply IsS87.set_2)|exact HI0.out),by repeat (first|(with_reducible first|exact HB.out|apply below_alloc|apply pw_below_drewN|apply below_drew1|refine below_set ?_ (IsS87.ge HI0.out))|exact HB.out),by repeat (first|(with_reducible first|exact HK.out|apply KeepBut.set_|apply keep_drewN|apply keep_drew|apply keep_alloc)|exact HK.out)⟩
  ·rw [if_neg c3] at H
   exact absurd H (by simp)
 ·rw [if_neg c2] at H
  have c2b0:decide (s0_1 < (s0_0.length:Int))=false:=decide_eq_false c2
  clear c2
  simp only [Option.some.injEq,Prod.mk.injEq] at H
  obtain ⟨rfl,rfl,rfl⟩:=H
  obtain ⟨ASz5_0,cSz5_0,HGz5,hgz5,HSz5_0⟩:=HI0.out
  have hcz5_0:=cellS87_0 HGz5
  have hcz5_1:=cellS87_1 HGz5
  have hcz5_2:=cellS87_2 HGz5
  have hfz5_1:=blk_frozen HGz5 1
  have hfz5_2:=blk_frozen HGz5 2
  clear HGz5 hgz5
  go_enter Tryd.func69,Tryd.ntmps69
  go_wp2
  repeat (go_quiet (fail);try go_wp2)
  go_ret
  exact ⟨rz,by repeat (first|(with_reducible first|exact HI0.out|apply IsS87.alloc|apply IsS87.drewN|apply IsS87.drew|apply IsS87.set_1|apply IsS87.set_2)|exact HI0.out),by repeat (first|(with_reducible first|exact HB.out|apply below_alloc|apply pw_below_drewN|apply below_drew1|refine below_set ?_ (IsS87.ge HI0.out))|exact HB.out),by repeat (first|(with_reducible first|exact HK.out|apply KeepBut.set_|apply keep_drewN|apply keep_drew|apply keep_alloc)|exact HK.out)⟩
def spec_l1Below.f (s0_0:List Int) (s0_1:Int) (s0_2:Int) (a1:Int):Option (Int × Int × Int):=if a1≤0 then (some (0,s0_1,s0_2)) else (if a1≤256 then ((spec_l1Byte.f s0_0 s0_1 s0_2).bind fun bt212=>(if a1=0 then (none) else (some (Int.tmod bt212.1 a1,bt212.2.1,bt212.2.2)))) else ((spec_l1Byte.f s0_0 s0_1 s0_2).bind fun bt215=>((spec_l1Byte.f s0_0 bt215.2.1 bt215.2.2).bind fun bt218=>((spec_l1Byte.f s0_0 bt218.2.1 bt218.2.2).bind fun bt221=>(if a1=0 then (none) else (some (Int.tmod (wrap64 ((wrap64 ((wrap64 (bt215.1 * 65536))+(wrap64 (bt218.1 * 256))))+bt221.1)) a1,bt221.2.1,bt221.2.2)))))))
set_option maxHeartbeats 8000000 in
set_option maxRecDepth 100000 in
theorem spec_l1Below.calls (g:Nat) (s0_0:List Int) (s0_1:Int) (s0_2:Int) (a1:Int) (r1:Int) (r2:Int) (r3:Int) (w0 w:World) (hI:IsS87 w0 w g s0_0 s0_1 s0_2) (hB:Below w0.heap.size w0 w) (h:spec_l1Below.f s0_0 s0_1 s0_2 a1=some (r1,r2,r3)) :
  Calls Tryd.prog 58 #[.pointer (some ⟨g,0,none⟩),.int .i64 a1] w fun e w'=>e = .returned (.int .i64 r1)∧IsS87 w0 w' g s0_0 r2 r3∧Below w0.heap.size w0 w' ∧ KeepBut w w' g none:=by
 have HI0:=Aside0.mk hI
 have HK:=Aside0.mk (KeepBut.refl w g none)
 have HL:=Aside0.mk hB.size
 clear hI
 have HW0:=Aside0.mk hB.size
 have HB:=Aside0.mk hB
 clear hB
 have H:(if a1≤0 then (some (0,s0_1,s0_2)) else (if a1≤256 then ((spec_l1Byte.f s0_0 s0_1 s0_2).bind fun bt212=>(if a1=0 then (none) else (some (Int.tmod bt212.1 a1,bt212.2.1,bt212.2.2)))) else ((spec_l1Byte.f s0_0 s0_1 s0_2).bind fun bt215=>((spec_l1Byte.f s0_0 bt215.2.1 bt215.2.2).bind fun bt218=>((spec_l1Byte.f s0_0 bt218.2.1 bt218.2.2).bind fun bt221=>(if a1=0 then (none) else (some (Int.tmod (wrap64 ((wrap64 ((wrap64 (bt215.1 * 65536))+(wrap64 (bt218.1 * 256))))+bt221.1)) a1,bt221.2.1,bt221.2.2))))))))=some (r1,r2,r3):=h
 clear h
 by_cases c3:a1≤0
 ·rw [if_pos c3] at H
  have c3b0:decide (a1≤0)=true:=decide_eq_true c3
  clear c3
  simp only [Option.some.injEq,Prod.mk.injEq] at H
  obtain ⟨rfl,rfl,rfl⟩:=H
  go_enter Tryd.func58,Tryd.ntmps58
  go_wp2
  go_ret
  exact ⟨rz,by repeat (first|(with_reducible first|exact HI0.out|apply IsS87.alloc|apply IsS87.drewN|apply IsS87.drew|apply IsS87.set_1|apply IsS87.set_2)|exact HI0.out),by repeat (first|(with_reducible first|exact HB.out|apply below_alloc|apply pw_below_drewN|apply below_drew1|refine below_set ?_ (IsS87.ge HI0.out))|exact HB.out),by repeat (first|(with_reducible first|exact HK.out|apply KeepBut.set_|apply keep_drewN|apply keep_drew|apply keep_alloc)|exact HK.out)⟩
 ·rw [if_neg c3] at H
  have c3b0:decide (a1≤0)=false:=decide_eq_false c3
  clear c3
  by_cases c4:a1≤256
  ·rw [if_pos c4] at H
   have c4b0:decide (a1≤256)=true:=decide_eq_true c4
   clear c4
   replace H:=Option.bind_eq_some_iff.mp H
   obtain ⟨⟨t212,t213,t214⟩,A50,H⟩:=H
   try dsimp only at H
   have A5:=Aside0.mk A50
   clear A50
   by_cases c6:a1=0
   ·rw [if_pos c6] at H
    exact absurd H (by simp)
   ·rw [if_neg c6] at H
    have c6b0:(a1 == 0)=false:=beq_eq_false_iff_ne.mpr c6
    have c6b1:(a1 != 0)=true:=bne_iff_ne.mpr c6
    simp only [Option.some.injEq,Prod.mk.injEq] at H
    obtain ⟨rfl,rfl,rfl⟩:=H
    go_enter Tryd.func58,Tryd.ntmps58
    go_wp2_with (first|((with_reducible refine gate_callee (f:=69) rfl ?_);refine goesL_ (some 13) rfl rfl Tryd.func69 (by kernel_rfl) rfl #[.pointer (some ⟨g,0,none⟩)] rfl (by (try simp only [List.map_toArray,List.map_cons,List.map_nil]);first|done|rfl|(simp only [List.length_drop,List.length_take];rfl)) ?_;(with_reducible refine (spec_l1Byte.calls g s0_0 s0_1 s0_2 t212 t213 t214 w0 _ ?side1 ?side2 A5.out).mono ?_);(case side1=>repeat (first|(with_reducible first|exact HI0.out|apply IsS87.alloc|apply IsS87.drewN|apply IsS87.drew|apply IsS87.set_1|apply IsS87.set_2)|exact HI0.out));(case side2=>repeat (first|(with_reducible first|exact HB.out|apply below_alloc|apply pw_below_drewN|apply below_drew1|refine below_set ?_ (IsS87.ge HI0.out))|exact HB.out));rintro e w7 ⟨rfl,hi,hb,hk⟩;refine ⟨_,rfl,?_⟩;have n0_:=Aside0.mk (KeepBut.trans (by repeat (first|(with_reducible first|exact HK.out|apply KeepBut.set_|apply keep_drewN|apply keep_drew|apply keep_alloc)|exact HK.out)) hk (.inl rfl));have n1_:=Aside0.mk (hb);have n2_:=Aside0.mk (hi);clear HK;clear HB;clear HI0;have HK:=n0_;have HB:=n1_;have HI0:=n2_;clear n0_ n1_ n2_;(try clear hb);(try clear hb2);(try clear hk);(try clear hi)))
    go_ret
    exact ⟨rz,by repeat (first|(with_reducible first|exact HI0.out|apply IsS87.alloc|apply IsS87.drewN|apply IsS87.drew|apply IsS87.set_1|apply IsS87.set_2)|exact HI0.out),by repeat (first|(with_reducible first|exact HB.out|apply below_alloc|apply pw_below_drewN|apply below_drew1|refine below_set ?_ (IsS87.ge HI0.out))|exact HB.out),by repeat (first|(with_reducible first|exact HK.out|apply KeepBut.set_|apply keep_drewN|apply keep_drew|apply keep_alloc)|exact HK.out)⟩
  ·rw [if_neg c4] at H
   have c4b0:decide (a1≤256)=false:=decide_eq_false c4
   clear c4
   replace H:=Option.bind_eq_some_iff.mp H
   obtain ⟨⟨t215,t216,t217⟩,A80,H⟩:=H
   try dsimp only at H
   have A8:=Aside0.mk A80
   clear A80
   replace H:=Option.bind_eq_some_iff.mp H
   obtain ⟨⟨t218,t219,t220⟩,A90,H⟩:=H
   try dsimp only at H
   have A9:=Aside0.mk A90
   clear A90
   replace H:=Option.bind_eq_some_iff.mp H
   obtain ⟨⟨t221,t222,t223⟩,A100,H⟩:=H
   try dsimp only at H
   have A10:=Aside0.mk A100
   clear A100
   by_cases c11:a1=0
   ·rw [if_pos c11] at H
    exact absurd H (by simp)
   ·rw [if_neg c11] at H
    have c11b0:(a1 == 0)=false:=beq_eq_false_iff_ne.mpr c11
    have c11b1:(a1 != 0)=true:=bne_iff_ne.mpr c11
    simp only [Option.some.injEq,Prod.mk.injEq] at H
    obtain ⟨rfl,rfl,rfl⟩:=H
    go_enter Tryd.func58,Tryd.ntmps58
    go_wp2_with (first|((with_reducible refine gate_callee (f:=69) rfl ?_);refine goesL_ (some 17) rfl rfl Tryd.func69 (by kernel_rfl) rfl #[.pointer (some ⟨g,0,none⟩)] rfl (by (try simp only [List.map_toArray,List.map_cons,List.map_nil]);first|done|rfl|(simp only [List.length_drop,List.length_take];rfl)) ?_;(with_reducible refine (spec_l1Byte.calls g s0_0 s0_1 s0_2 t215 t216 t217 w0 _ ?side1 ?side2 A8.out).mono ?_);(case side1=>repeat (first|(with_reducible first|exact HI0.out|apply IsS87.alloc|apply IsS87.drewN|apply IsS87.drew|apply IsS87.set_1|apply IsS87.set_2)|exact HI0.out));(case side2=>repeat (first|(with_reducible first|exact HB.out|apply below_alloc|apply pw_below_drewN|apply below_drew1|refine below_set ?_ (IsS87.ge HI0.out))|exact HB.out));rintro e w12 ⟨rfl,hi,hb,hk⟩;refine ⟨_,rfl,?_⟩;have n0_:=Aside0.mk (KeepBut.trans (by repeat (first|(with_reducible first|exact HK.out|apply KeepBut.set_|apply keep_drewN|apply keep_drew|apply keep_alloc)|exact HK.out)) hk (.inl rfl));have n1_:=Aside0.mk (hb);have n2_:=Aside0.mk (hi);clear HK;clear HB;clear HI0;have HK:=n0_;have HB:=n1_;have HI0:=n2_;clear n0_ n1_ n2_;(try clear hb);(try clear hb2);(try clear hk);(try clear hi))|((with_reducible refine gate_callee (f:=69) rfl ?_);refine goesL_ (some 19) rfl rfl Tryd.func69 (by kernel_rfl) rfl #[.pointer (some ⟨g,0,none⟩)] rfl (by (try simp only [List.map_toArray,List.map_cons,List.map_nil]);first|done|rfl|(simp only [List.length_drop,List.length_take];rfl)) ?_;(with_reducible refine (spec_l1Byte.calls g s0_0 t216 t217 t218 t219 t220 w0 _ ?side1 ?side2 A9.out).mono ?_);(case side1=>repeat (first|(with_reducible first|exact HI0.out|apply IsS87.alloc|apply IsS87.drewN|apply IsS87.drew|apply IsS87.set_1|apply IsS87.set_2)|exact HI0.out));(case side2=>repeat (first|(with_reducible first|exact HB.out|apply below_alloc|apply pw_below_drewN|apply below_drew1|refine below_set ?_ (IsS87.ge HI0.out))|exact HB.out));rintro e w13 ⟨rfl,hi,hb,hk⟩;refine ⟨_,rfl,?_⟩;have n0_:=Aside0.mk (KeepBut.trans (by repeat (first|(with_reducible first|exact HK.out|apply KeepBut.set_|apply keep_drewN|apply keep_drew|apply keep_alloc)|exact HK.out)) hk (.inl rfl));have n1_:=Aside0.mk (hb);have n2_:=Aside0.mk (hi);clear HK;clear HB;clear HI0;have HK:=n0_;have HB:=n1_;have HI0:=n2_;clear n0_ n1_ n2_;(try clear hb);(try clear hb2);(try clear hk);(try clear hi))|((with_reducible refine gate_callee (f:=69) rfl ?_);refine goesL_ (some 21) rfl rfl Tryd.func69 (by kernel_rfl) rfl #[.pointer (some ⟨g,0,none⟩)] rfl (by (try simp only [List.map_toArray,List.map_cons,List.map_nil]);first|done|rfl|(simp only [List.length_drop,List.length_take];rfl)) ?_;(with_reducible refine (spec_l1Byte.calls g s0_0 t219 t220 t221 t222 t223 w0 _ ?side1 ?side2 A10.out).mono ?_);(case side1=>repeat (first|(with_reducible first|exact HI0.out|apply IsS87.alloc|apply IsS87.drewN|apply IsS87.drew|apply IsS87.set_1|apply IsS87.set_2)|exact HI0.out));(case side2=>repeat (first|(with_reducible first|exact HB.out|apply below_alloc|apply pw_below_drewN|apply below_drew1|refine below_set ?_ (IsS87.ge HI0.out))|exact HB.out));rintro e w14 ⟨rfl,hi,hb,hk⟩;refine ⟨_,rfl,?_⟩;have n0_:=Aside0.mk (KeepBut.trans (by repeat (first|(with_reducible first|exact HK.out|apply KeepBut.set_|apply keep_drewN|apply keep_drew|apply keep_alloc)|exact HK.out)) hk (.inl rfl));have n1_:=Aside0.mk (hb);have n2_:=Aside0.mk (hi);clear HK;clear HB;clear HI0;have HK:=n0_;have HB:=n1_;have HI0:=n2_;clear n0_ n1_ n2_;(try clear hb);(try clear hb2);(try clear hk);(try clear hi)))
    go_ret
    exact ⟨rz,by repeat (first|(with_reducible first|exact HI0.out|apply IsS87.alloc|apply IsS87.drewN|apply IsS87.drew|apply IsS87.set_1|apply IsS87.set_2)|exact HI0.out),by repeat (first|(with_reducible first|exact HB.out|apply below_alloc|apply pw_below_drewN|apply below_drew1|refine below_set ?_ (IsS87.ge HI0.out))|exact HB.out),by repeat (first|(with_reducible first|exact HK.out|apply KeepBut.set_|apply keep_drewN|apply keep_drew|apply keep_alloc)|exact HK.out)⟩
def spec_l1Str.f (s0_0:List Int) (s0_1:Int) (s0_2:Int) (l1:List ByteArray):Option (ByteArray × Int × Int):=(spec_l1Below.f s0_0 s0_1 s0_2 (l1.length:Int)).bind fun bt224=>(if 0≤bt224.1 then (if bt224.1 < (l1.length:Int) then (some (rdOf ByteArray.empty l1 bt224.1,bt224.2.1,bt224.2.2)) else (none)) else (none))
set_option maxHeartbeats 8000000 in
set_option maxRecDepth 100000 in
theorem spec_l1Str.calls (g:Nat) (s0_0:List Int) (s0_1:Int) (s0_2:Int) (A1:Option Addr) (c1:Nat) (l1:List ByteArray) (r1:ByteArray) (r2:Int) (r3:Int) (w0 w:World) (hI:IsS87 w0 w g s0_0 s0_1 s0_2) (hB:Below w0.heap.size w0 w) (hr1:Kd.C Kd.string w A1 l1.length l1) (hc1:l1.length≤c1) (hf1 : ∀ ad,A1=some ad→0 < l1.length→ad.block ≠ g) (h:spec_l1Str.f s0_0 s0_1 s0_2 l1=some (r1,r2,r3)) :
  Calls Tryd.prog 54 #[.pointer (some ⟨g,0,none⟩),.slice A1 l1.length c1] w fun e w'=>e = .returned (.string r1)∧IsS87 w0 w' g s0_0 r2 r3∧Below w0.heap.size w0 w' ∧ KeepBut w w' g none:=by
 have HR1:=Aside0.mk hr1
 have HC1:=Aside0.mk hc1
 clear hr1 hc1
 have HI0:=Aside0.mk hI
 have HK:=Aside0.mk (KeepBut.refl w g none)
 have HL:=Aside0.mk hB.size
 clear hI
 have HW0:=Aside0.mk hB.size
 have HB:=Aside0.mk hB
 clear hB
 have H:((spec_l1Below.f s0_0 s0_1 s0_2 (l1.length:Int)).bind fun bt224=>(if 0≤bt224.1 then (if bt224.1 < (l1.length:Int) then (some (rdOf ByteArray.empty l1 bt224.1,bt224.2.1,bt224.2.2)) else (none)) else (none)))=some (r1,r2,r3):=h
 clear h
 replace H:=Option.bind_eq_some_iff.mp H
 obtain ⟨⟨t224,t225,t226⟩,A30,H⟩:=H
 try dsimp only at H
 have A3:=Aside0.mk A30
 clear A30
 by_cases c4:0≤t224
 ·rw [if_pos c4] at H
  have c4b0:decide (0≤t224)=true:=decide_eq_true c4
  clear c4
  by_cases c5:t224 < (l1.length:Int)
  ·rw [if_pos c5] at H
   have c5b0:decide (t224 < (l1.length:Int))=true:=decide_eq_true c5
   clear c5
   simp only [Option.some.injEq,Prod.mk.injEq] at H
   obtain ⟨rfl,rfl,rfl⟩:=H
   go_enter Tryd.func54,Tryd.ntmps54
   go_wp2_with (first|((with_reducible refine gate_callee (f:=58) rfl ?_);refine goesL_ (some 9) rfl rfl Tryd.func58 (by kernel_rfl) rfl #[.pointer (some ⟨g,0,none⟩),.int .i64 (l1.length:Int)] rfl (by (try simp only [List.map_toArray,List.map_cons,List.map_nil]);first|done|rfl|(simp only [List.length_drop,List.length_take];rfl)) ?_;(with_reducible refine (spec_l1Below.calls g s0_0 s0_1 s0_2 (l1.length:Int) t224 t225 t226 w0 _ ?side1 ?side2 A3.out).mono ?_);(case side1=>repeat (first|(with_reducible first|exact HI0.out|apply IsS87.alloc|apply IsS87.drewN|apply IsS87.drew|apply IsS87.set_1|apply IsS87.set_2)|exact HI0.out));(case side2=>repeat (first|(with_reducible first|exact HB.out|apply below_alloc|apply pw_below_drewN|apply below_drew1|refine below_set ?_ (IsS87.ge HI0.out))|exact HB.out));rintro e w6 ⟨rfl,hi,hb,hk⟩;refine ⟨_,rfl,?_⟩;have n0_:=Aside0.mk (KeepBut.trans (by repeat (first|(with_reducible first|exact HK.out|apply KeepBut.set_|apply keep_drewN|apply keep_drew|apply keep_alloc)|exact HK.out)) hk (.inl rfl));have n1_:=Aside0.mk (hb);have n2_:=Aside0.mk (hi);clear HK;clear HB;clear HI0;have HK:=n0_;have HB:=n1_;have HI0:=n2_;clear n0_ n1_ n2_;(try clear hb);(try clear hb2);(try clear hk);(try clear hi);have p227:0≤(t224:Int):=of_decide_eq_true (by first|(with_reducible assumption)|assumption);have q227:t224 < (l1.length:Int):=of_decide_eq_true (by first|(with_reducible assumption)|assumption);obtain ⟨ad227,e227,hx227_0⟩:=Kd.at_string HR1.out t224 p227 q227;cases e227;replace hx227_0:=keep_cell HK.out hx227_0 (by first|(rw [add_block];exact hf1 _ rfl (by omega))|exact hf1 _ rfl (by omega)|exact hf1 ad227 rfl (by omega));replace p227:=eq_true p227;replace q227:=eq_true q227))
   go_ret
   exact ⟨rz,by repeat (first|(with_reducible first|exact HI0.out|apply IsS87.alloc|apply IsS87.drewN|apply IsS87.drew|apply IsS87.set_1|apply IsS87.set_2)|exact HI0.out),by repeat (first|(with_reducible first|exact HB.out|apply below_alloc|apply pw_below_drewN|apply below_drew1|refine below_set ?_ (IsS87.ge HI0.out))|exact HB.out),by repeat (first|(with_reducible first|exact HK.out|apply KeepBut.set_|apply keep_drewN|apply keep_drew|apply keep_alloc)|exact HK.out)⟩
  ·rw [if_neg c5] at H
   exact absurd H (by simp)
 ·rw [if_neg c4] at H
  exact absurd H (by simp)
def spec_l1Int.f (s0_0:List Int) (s0_1:Int) (s0_2:Int) (l1:List Int):Option (Int × Int × Int):=(spec_l1Below.f s0_0 s0_1 s0_2 (l1.length:Int)).bind fun bt228=>(if 0≤bt228.1 then (if bt228.1 < (l1.length:Int) then (some (rd l1 bt228.1,bt228.2.1,bt228.2.2)) else (none)) else (none))
set_option maxHeartbeats 8000000 in
set_option maxRecDepth 100000 in
theorem spec_l1Int.calls (g:Nat) (s0_0:List Int) (s0_1:Int) (s0_2:Int) (A1:Option Addr) (c1:Nat) (l1:List Int) (r1:Int) (r2:Int) (r3:Int) (w0 w:World) (hI:IsS87 w0 w g s0_0 s0_1 s0_2) (hB:Below w0.heap.size w0 w) (hr1:Kd.C (Kd.int .i64) w A1 l1.length l1) (hc1:l1.length≤c1) (hf1 : ∀ ad,A1=some ad→0 < l1.length→ad.block ≠ g) (h:spec_l1Int.f s0_0 s0_1 s0_2 l1=some (r1,r2,r3)) :
  Calls Tryd.prog 67 #[.pointer (some ⟨g,0,none⟩),.slice A1 l1.length c1] w fun e w'=>e = .returned (.int .i64 r1)∧IsS87 w0 w' g s0_0 r2 r3∧Below w0.heap.size w0 w' ∧ KeepBut w w' g none:=by
 have HR1:=Aside0.mk hr1
 have HC1:=Aside0.mk hc1
 clear hr1 hc1
 have HI0:=Aside0.mk hI
 have HK:=Aside0.mk (KeepBut.refl w g none)
 have HL:=Aside0.mk hB.size
 clear hI
 have HW0:=Aside0.mk hB.size
 have HB:=Aside0.mk hB
 clear hB
 have H:((spec_l1Below.f s0_0 s0_1 s0_2 (l1.length:Int)).bind fun bt228=>(if 0≤bt228.1 then (if bt228.1 < (l1.length:Int) then (some (rd l1 bt228.1,bt228.2.1,bt228.2.2)) else (none)) else (none)))=some (r1,r2,r3):=h
 clear h
 replace H:=Option.bind_eq_some_iff.mp H
 obtain ⟨⟨t228,t229,t230⟩,A30,H⟩:=H
 try dsimp only at H
 have A3:=Aside0.mk A30
 clear A30
 by_cases c4:0≤t228
 ·rw [if_pos c4] at H
  have c4b0:decide (0≤t228)=true:=decide_eq_true c4
  clear c4
  by_cases c5:t228 < (l1.length:Int)
  ·rw [if_pos c5] at H
   have c5b0:decide (t228 < (l1.length:Int))=true:=decide_eq_true c5
   clear c5
   simp only [Option.some.injEq,Prod.mk.injEq] at H
   obtain ⟨rfl,rfl,rfl⟩:=H
   go_enter Tryd.func67,Tryd.ntmps67
   go_wp2_with (first|((with_reducible refine gate_callee (f:=58) rfl ?_);refine goesL_ (some 9) rfl rfl Tryd.func58 (by kernel_rfl) rfl #[.pointer (some ⟨g,0,none⟩),.int .i64 (l1.length:Int)] rfl (by (try simp only [List.map_toArray,List.map_cons,List.map_nil]);first|done|rfl|(simp only [List.length_drop,List.length_take];rfl)) ?_;(with_reducible refine (spec_l1Below.calls g s0_0 s0_1 s0_2 (l1.length:Int) t228 t229 t230 w0 _ ?side1 ?side2 A3.out).mono ?_);(case side1=>repeat (first|(with_reducible first|exact HI0.out|apply IsS87.alloc|apply IsS87.drewN|apply IsS87.drew|apply IsS87.set_1|apply IsS87.set_2)|exact HI0.out));(case side2=>repeat (first|(with_reducible first|exact HB.out|apply below_alloc|apply pw_below_drewN|apply below_drew1|refine below_set ?_ (IsS87.ge HI0.out))|exact HB.out));rintro e w6 ⟨rfl,hi,hb,hk⟩;refine ⟨_,rfl,?_⟩;have n0_:=Aside0.mk (KeepBut.trans (by repeat (first|(with_reducible first|exact HK.out|apply KeepBut.set_|apply keep_drewN|apply keep_drew|apply keep_alloc)|exact HK.out)) hk (.inl rfl));have n1_:=Aside0.mk (hb);have n2_:=Aside0.mk (hi);clear HK;clear HB;clear HI0;have HK:=n0_;have HB:=n1_;have HI0:=n2_;clear n0_ n1_ n2_;(try clear hb);(try clear hb2);(try clear hk);(try clear hi);have p231:0≤(t228:Int):=of_decide_eq_true (by first|(with_reducible assumption)|assumption);have q231:t228 < (l1.length:Int):=of_decide_eq_true (by first|(with_reducible assumption)|assumption);obtain ⟨ad231,e231,hx231_0⟩:=Kd.at_int HR1.out t228 p231 q231;cases e231;replace hx231_0:=keep_cell HK.out hx231_0 (by first|(rw [add_block];exact hf1 _ rfl (by omega))|exact hf1 _ rfl (by omega)|exact hf1 ad231 rfl (by omega));replace p231:=eq_true p231;replace q231:=eq_true q231))
   go_ret
   exact ⟨rz,by repeat (first|(with_reducible first|exact HI0.out|apply IsS87.alloc|apply IsS87.drewN|apply IsS87.drew|apply IsS87.set_1|apply IsS87.set_2)|exact HI0.out),by repeat (first|(with_reducible first|exact HB.out|apply below_alloc|apply pw_below_drewN|apply below_drew1|refine below_set ?_ (IsS87.ge HI0.out))|exact HB.out),by repeat (first|(with_reducible first|exact HK.out|apply KeepBut.set_|apply keep_drewN|apply keep_drew|apply keep_alloc)|exact HK.out)⟩
  ·rw [if_neg c5] at H
   exact absurd H (by simp)
 ·rw [if_neg c4] at H
  exact absurd H (by simp)
end Go.Proofs.YtnoglmdicdpabaaDoor.PFnDevsRead
